import PyProof.Rows.All
import Wide.All
import OpenK.AllK
import Wide.FinOn
import KE.KStateDown
import HandS.Base
import HandS.Call
import HandS.List
import HandS.Comp
import HandS.Ends
import HandS.Dict
import HandS.Iter
import HandS.Words
import HandS.WordsExc
import HandS.More
import HandS.Rev
import HandS.RevRange
import HandS.IsInst
import HandS.Defaults
import HandS.Head0
import HandS.Head1
import HandS.Head2
import HandS.HeadEnd
import HandS.HeadHook1
import HandS.HeadHook2
import PySem.Challenge.RW_drivermatch_k02_fits
set_option Elab.async false
set_option linter.all false
set_option maxRecDepth 100000
set_option maxHeartbeats 4000000
/-! A cleaner store over the hand layer: data, objects by place, and what is wanted behind a piece of code (WE, WT, WA, WS). -/
namespace DM
open PySem L2

/-- a datum: tuples as trees, changing objects by their place in the store -/
inductive D where
  | non | bl (b : Bool) | int (i : Int) | str (x : Str) | ty (n : String) | ref (a : Addr) | tup (xs : List D) | loc (l : Nat) | scr (ns : List Int)
mutual
def D.beq : D → D → Bool
  | .non, .non => true
  | .bl a, .bl b => decide (a = b)
  | .int a, .int b => decide (a = b)
  | .str a, .str b => decide (a = b)
  | .ty a, .ty b => decide (a = b)
  | .ref a, .ref b => decide (a = b)
  | .loc a, .loc b => decide (a = b)
  | .scr a, .scr b => decide (a = b)
  | .tup xs, .tup ys => D.beqs xs ys
  | _, _ => false
def D.beqs : List D → List D → Bool
  | [], [] => true
  | x :: xs, y :: ys => D.beq x y && D.beqs xs ys
  | _, _ => false
end
mutual
theorem D.beq_iff : ∀ (x y : D), D.beq x y = true ↔ x = y
  | .non, y => by cases y <;> simp [D.beq]
  | .bl a, y => by cases y <;> simp [D.beq]
  | .int a, y => by cases y <;> simp [D.beq]
  | .str a, y => by cases y <;> simp [D.beq]
  | .ty a, y => by cases y <;> simp [D.beq]
  | .ref a, y => by cases y <;> simp [D.beq]
  | .loc a, y => by cases y <;> simp [D.beq]
  | .scr a, y => by cases y <;> simp [D.beq]
  | .tup xs, y => by
    cases y with
    | tup ys => simp only [D.beq, D.tup.injEq]; exact D.beqs_iff xs ys
    | _ => simp [D.beq]
theorem D.beqs_iff : ∀ (xs ys : List D), D.beqs xs ys = true ↔ xs = ys
  | [], ys => by cases ys <;> simp [D.beqs]
  | x :: xs, ys => by
    cases ys with
    | nil => simp [D.beqs]
    | cons y ys => simp only [D.beqs, Bool.and_eq_true, List.cons.injEq]; rw [D.beq_iff x y, D.beqs_iff xs ys]
end
instance : DecidableEq D := fun x y => decidable_of_iff _ (D.beq_iff x y)
abbrev Fv := List (Option D)
/-- what stands at a place -/
inductive Ob where
  | lst (xs : List D) | dK (kvs : List (Key × D)) | dT (kvs : List (List Key × D)) | ins (C : Addr) (fs : List (Str × D)) | frz (o : Obj) (u : Ob)
abbrev Store := List Ob

section rel
variable (F : List Addr) (H : Hp)
mutual
def RD : D → V → Prop
  | .non, v => v = .non
  | .bl b, v => v = .bl b
  | .int i, v => v = .int i
  | .str x, v => v = .str x
  | .ty n, v => v = .ty n
  | .ref a, v => v = .ref a
  | .tup xs, v => ∃ a vs, v = .ref a ∧ H a = some (.tup vs) ∧ RDs xs vs
  | .loc l, v => ∃ a, v = .ref a ∧ F[l]? = some a
  | .scr ns, v => ∃ a o, v = .ref a ∧ H a = some (.frz o (.lst (ns.map V.int)))
def RDs : List D → List V → Prop
  | [], vs => vs = []
  | x :: xs, vs => ∃ v r, vs = v :: r ∧ RD x v ∧ RDs xs r
end
def RKs {κ : Type} : List (κ × D) → List (κ × V) → Prop
  | [], vs => vs = []
  | x :: xs, vs => ∃ v r, vs = (x.1, v) :: r ∧ RD F H x.2 v ∧ RKs xs r
def RO : Ob → HO → Prop
  | .lst xs, h => ∃ vs, h = .lst vs ∧ RDs F H xs vs
  | .dK kvs, h => ∃ vs, h = .dK vs ∧ RKs F H kvs vs
  | .dT kvs, h => ∃ vs, h = .dT vs ∧ RKs F H kvs vs
  | .ins C fs, h => ∃ dx vs, h = .ins C dx vs ∧ RKs F H fs vs
  | .frz o u, h => ∃ g, h = .frz o g ∧ RO u g
structure RS (S : Store) : Prop where
  len : F.length = S.length
  nd : F.Nodup
  ob : ∀ (l : Nat) (o : Ob), S[l]? = some o → ∃ (a : Addr) (h : HO), F[l]? = some a ∧ H a = some h ∧ RO F H o h
structure RE (e : Fv) (t : L2.St) : Prop where
  len : e.length = t.length
  at_ : ∀ (i : Nat) (d : D), e[i]? = some (some d) → ∃ v, t[i]? = some (some v) ∧ RD F H d v
end rel
/-- tuples stay, and the script -/
def Keep (H H' : Hp) : Prop := (∀ a xs, H a = some (.tup xs) → H' a = some (.tup xs)) ∧ ∀ a o xs, H a = some (.frz o (.lst xs)) → H' a = some (.frz o (.lst xs))
theorem Keep.refl (H : Hp) : Keep H H := ⟨fun _ _ h => h, fun _ _ _ h => h⟩
theorem Keep.trans {H H1 H2 : Hp} (a : Keep H H1) (b : Keep H1 H2) : Keep H H2 := ⟨fun x y h => b.1 x y (a.1 x y h), fun x o y h => b.2 x o y (a.2 x o y h)⟩
theorem Keep.new {H : Hp} {p : Addr} {o : HO} (h : H p = none) : Keep H (upd H p o) := ⟨fun a xs q => by
  rw [upd_ne (ne_of_none q h)]; exact q, fun a ob xs q => by rw [upd_ne (ne_of_none q h)]; exact q⟩
/-- what is written is no tuple, no locked list -/
def NoT : HO → Prop
  | .tup _ => False
  | .frz _ (.lst _) => False
  | _ => True
theorem Keep.upd {H : Hp} {p : Addr} {u o : HO} (h : H p = some u) (n : NoT u) : Keep H (upd H p o) := ⟨fun a xs q => by
  rw [upd_ne (fun z => by rw [z, h] at q; cases q; exact n)]; exact q, fun a ob xs q => by
  rw [upd_ne (fun z => by rw [z, h] at q; cases q; exact n)]; exact q⟩

section mono
variable {K : PySem.W.Frag} {F F' : List Addr} {H H' : Hp}
theorem pre_get {F F' : List Addr} (p : F <+: F') {l : Nat} {a : Addr} (h : F[l]? = some a) : F'[l]? = some a := by
  obtain ⟨t, rfl⟩ := p
  rw [List.getElem?_append_left (List.getElem?_eq_some_iff.mp h).1]
  exact h
mutual
theorem RD.mono (p : F <+: F') (k : Keep H H') : ∀ (d : D) (v : V), RD F H d v → RD F' H' d v
  | .non, _, h => h
  | .bl _, _, h => h
  | .int _, _, h => h
  | .str _, _, h => h
  | .ty _, _, h => h
  | .ref _, _, h => h
  | .tup xs, _, ⟨a, vs, e, s, r⟩ => ⟨a, vs, e, k.1 _ _ s, RDs.mono p k xs vs r⟩
  | .loc _, _, ⟨a, e, h⟩ => ⟨a, e, pre_get p h⟩
  | .scr _, _, ⟨a, o, e, h⟩ => ⟨a, o, e, k.2 _ _ _ h⟩
theorem RDs.mono (p : F <+: F') (k : Keep H H') : ∀ (xs : List D) (vs : List V), RDs F H xs vs → RDs F' H' xs vs
  | [], _, h => h
  | x :: xs, _, ⟨v, r, e, h1, h2⟩ => ⟨v, r, e, RD.mono p k x v h1, RDs.mono p k xs r h2⟩
end
theorem RKs.mono {κ : Type} (p : F <+: F') (k : Keep H H') : ∀ (xs : List (κ × D)) (vs : List (κ × V)), RKs F H xs vs → RKs F' H' xs vs
  | [], _, h => h
  | _ :: xs, _, ⟨v, r, e, h1, h2⟩ => ⟨v, r, e, RD.mono p k _ v h1, RKs.mono p k xs r h2⟩
theorem RO.mono (p : F <+: F') (k : Keep H H') : ∀ (o : Ob) (h : HO), RO F H o h → RO F' H' o h
  | .lst xs, _, ⟨vs, e, r⟩ => ⟨vs, e, RDs.mono p k xs vs r⟩
  | .dK xs, _, ⟨vs, e, r⟩ => ⟨vs, e, RKs.mono p k xs vs r⟩
  | .dT xs, _, ⟨vs, e, r⟩ => ⟨vs, e, RKs.mono p k xs vs r⟩
  | .ins C xs, _, ⟨dx, vs, e, r⟩ => ⟨dx, vs, e, RKs.mono p k xs vs r⟩
  | .frz o u, _, ⟨g, e, r⟩ => ⟨g, e, RO.mono p k u g r⟩
theorem RE.mono {e : Fv} {t : L2.St} (p : F <+: F') (k : Keep H H') (h : RE F H e t) : RE F' H' e t :=
  ⟨h.len, fun i d q => let ⟨v, a, b⟩ := h.at_ i d q; ⟨v, a, b.mono p k⟩⟩
theorem RDs.length : ∀ {xs : List D} {vs : List V}, RDs F H xs vs → vs.length = xs.length
  | [], _, h => by cases h; rfl
  | _ :: xs, _, ⟨v, r, e, _, h⟩ => by rw [e]; simp [RDs.length h]
theorem RKs.length {κ : Type} : ∀ {xs : List (κ × D)} {vs : List (κ × V)}, RKs F H xs vs → vs.length = xs.length
  | [], _, h => by cases h; rfl
  | _ :: xs, _, ⟨v, r, e, _, h⟩ => by rw [e]; simp [RKs.length h]
theorem RDs.append : ∀ {xs ys : List D} {vs ws : List V}, RDs F H xs vs → RDs F H ys ws → RDs F H (xs ++ ys) (vs ++ ws)
  | [], _, _, _, h, g => by cases h; exact g
  | _ :: xs, _, _, _, ⟨v, r, e, h1, h2⟩, g => ⟨v, _, by rw [e]; rfl, h1, RDs.append h2 g⟩
theorem RDs.get : ∀ {xs : List D} {vs : List V} {i : Nat} {d : D}, RDs F H xs vs → xs[i]? = some d → ∃ v, vs[i]? = some v ∧ RD F H d v
  | [], _, _, _, _, h => by simp at h
  | x :: xs, _, 0, d, ⟨v, r, e, h1, h2⟩, h => by
    have : x = d := by simpa using h
    subst this
    exact ⟨v, by rw [e]; rfl, h1⟩
  | x :: xs, _, i + 1, d, ⟨v, r, e, h1, h2⟩, h => by
    obtain ⟨w, a, b⟩ := RDs.get (i := i) (d := d) h2 (by simpa using h)
    exact ⟨w, by rw [e]; simpa using a, b⟩
theorem RDs.get' : ∀ {xs : List D} {vs : List V} {i : Nat} {v : V}, RDs F H xs vs → vs[i]? = some v → ∃ d, xs[i]? = some d ∧ RD F H d v
  | [], _, _, _, h, g => by cases h; simp at g
  | x :: xs, _, 0, v', ⟨v, r, e, h1, h2⟩, h => by
    subst e
    have : v = v' := by simpa using h
    subst this
    exact ⟨x, rfl, h1⟩
  | x :: xs, _, i + 1, v', ⟨v, r, e, h1, h2⟩, h => by
    subst e
    obtain ⟨w, a, b⟩ := RDs.get' (i := i) (v := v') h2 (by simpa using h)
    exact ⟨w, by simpa using a, b⟩
theorem RDs.set {d : D} {v : V} (r : RD F H d v) : ∀ {xs : List D} {vs : List V} (i : Nat), RDs F H xs vs → RDs F H (xs.set i d) (vs.set i v)
  | [], _, _, h => by cases h; rfl
  | x :: xs, _, 0, ⟨w, r', e, h1, h2⟩ => ⟨v, r', by rw [e]; rfl, r, h2⟩
  | x :: xs, _, i + 1, ⟨w, r', e, h1, h2⟩ => ⟨w, _, by rw [e]; rfl, h1, RDs.set r i h2⟩
theorem RDs.take : ∀ {xs : List D} {vs : List V} (n : Nat), RDs F H xs vs → RDs F H (xs.take n) (vs.take n)
  | _, _, 0, _ => rfl
  | [], _, _ + 1, h => by cases h; rfl
  | _ :: _, _, n + 1, ⟨v, r, e, h1, h2⟩ => ⟨v, _, by rw [e]; rfl, h1, RDs.take n h2⟩
theorem RDs.drop : ∀ {xs : List D} {vs : List V} (n : Nat), RDs F H xs vs → RDs F H (xs.drop n) (vs.drop n)
  | _, _, 0, h => h
  | [], _, _ + 1, h => by cases h; rfl
  | _ :: _, _, n + 1, ⟨v, r, e, h1, h2⟩ => by rw [e]; exact RDs.drop n h2
theorem RDs.dropLast {xs : List D} {vs : List V} (h : RDs F H xs vs) : RDs F H xs.dropLast vs.dropLast := by
  rw [List.dropLast_eq_take, List.dropLast_eq_take, h.length]
  exact h.take _
theorem RDs.eraseIdx : ∀ {xs : List D} {vs : List V} (i : Nat), RDs F H xs vs → RDs F H (xs.eraseIdx i) (vs.eraseIdx i)
  | [], _, _, h => by cases h; rfl
  | x :: xs, _, 0, ⟨w, r', e, h1, h2⟩ => by rw [e]; exact h2
  | x :: xs, _, i + 1, ⟨w, r', e, h1, h2⟩ => ⟨w, _, by rw [e]; rfl, h1, RDs.eraseIdx i h2⟩
theorem RDs.reverse : ∀ {xs : List D} {vs : List V}, RDs F H xs vs → RDs F H xs.reverse vs.reverse
  | [], _, h => by cases h; rfl
  | x :: xs, _, ⟨w, r', e, h1, h2⟩ => by
    rw [e, List.reverse_cons, List.reverse_cons]
    exact RDs.append (RDs.reverse h2) ⟨w, [], rfl, h1, rfl⟩
theorem RS.get {S : Store} (h : RS F H S) {l : Nat} {o : Ob} (e : S[l]? = some o) : ∃ (a : Addr) (u : HO), F[l]? = some a ∧ H a = some u ∧ RO F H o u := h.ob l o e
theorem RS.lt {S : Store} (h : RS F H S) {l : Nat} {a : Addr} (e : F[l]? = some a) : l < S.length := by
  rw [← h.len]; exact (List.getElem?_eq_some_iff.mp e).1
theorem RS.there {S : Store} (h : RS F H S) {a : Addr} (e : a ∈ F) : ∃ u, H a = some u := by
  obtain ⟨l, hl, e⟩ := List.mem_iff_getElem.mp e
  have : l < S.length := by rw [← h.len]; exact hl
  obtain ⟨b, u, q1, q2, _⟩ := h.ob l S[l] (List.getElem?_eq_getElem this)
  rw [List.getElem?_eq_getElem hl] at q1
  cases q1
  rw [e] at q2
  exact ⟨u, q2⟩
/-- the heap alone has grown, all of ours stands -/
theorem RS.heap {S : Store} (h : RS F H S) (k : Keep H H') (s : ∀ a u, a ∈ F → H a = some u → H' a = some u) : RS F H' S :=
  ⟨h.len, h.nd, fun l o e => by
    obtain ⟨a, u, q1, q2, q3⟩ := h.ob l o e
    exact ⟨a, u, q1, s a u (List.mem_of_getElem? q1) q2, q3.mono (List.prefix_refl F) k⟩⟩
/-- an address that isn't ours is laid -/
theorem RS.other {S : Store} {p : Addr} {o : HO} (h : RS F H S) (hp : H p = none) : RS F (upd H p o) S :=
  h.heap (Keep.new hp) fun a u _ q => by rw [upd_ne (ne_of_none q hp)]; exact q
/-- a new object of ours -/
theorem RS.new {S : Store} {p : Addr} {o : Ob} {u : HO} (h : RS F H S) (hp : H p = none) (r : RO F H o u) : RS (F ++ [p]) (upd H p u) (S ++ [o]) := by
  have pre : F <+: F ++ [p] := ⟨[p], rfl⟩
  refine ⟨by simp [h.len], ?_, fun l ob e => ?_⟩
  · rw [List.nodup_append]
    refine ⟨h.nd, by simp, fun a ha b hb e => ?_⟩
    have : b = p := by simpa using hb
    subst this; subst e
    obtain ⟨v, q⟩ := h.there ha
    rw [hp] at q; cases q
  · by_cases hl : l < S.length
    · rw [List.getElem?_append_left hl] at e
      obtain ⟨a, v, q1, q2, q3⟩ := h.ob l ob e
      exact ⟨a, v, pre_get pre q1, by rw [upd_ne (ne_of_none q2 hp)]; exact q2, q3.mono pre (Keep.new hp)⟩
    · have hl' : l = S.length := by
        have := (List.getElem?_eq_some_iff.mp e).1
        simp at this; omega
      subst hl'
      rw [List.getElem?_append_right (Nat.le_refl _)] at e
      simp at e
      subst e
      exact ⟨p, u, by rw [← h.len]; simp, upd_same, r.mono pre (Keep.new hp)⟩
/-- an object of ours is written -/
theorem RS.set {S : Store} {l : Nat} {a : Addr} {o : Ob} {u0 u : HO} (h : RS F H S) (hl : F[l]? = some a) (h0 : H a = some u0) (n : NoT u0) (r : RO F H o u) : RS F (upd H a u) (S.set l o) := by
  refine ⟨by simp [h.len], h.nd, fun j ob e => ?_⟩
  have k : Keep H (upd H a u) := Keep.upd h0 n
  by_cases hj : j = l
  · subst hj
    rw [List.getElem?_set_self (h.lt hl)] at e
    cases e
    exact ⟨a, u, hl, upd_same, r.mono (List.prefix_refl F) k⟩
  · rw [List.getElem?_set_ne (Ne.symm hj)] at e
    obtain ⟨b, v, q1, q2, q3⟩ := h.ob j ob e
    refine ⟨b, v, q1, ?_, q3.mono (List.prefix_refl F) k⟩
    rw [upd_ne ?_]
    · exact q2
    · intro z
      subst z
      have h1 := List.getElem?_eq_some_iff.mp q1
      have h2 := List.getElem?_eq_some_iff.mp hl
      exact hj ((List.getElem_inj h.nd).mp (h1.2.trans h2.2.symm))
end mono
end DM

namespace DM
open PySem PySem.Spec PyProof.Rows L2
/-! ### what is wanted, by the hand layer's own words: the reading of a piece of code is its own run -/
section canon
variable (X : Cx)
def wE (e : Expr) : TE := fun t H Q => ∀ pins s, Inv X pins t H s → wpAny (model X.prog X.w) X.A (eval e X.env) (EP X pins t Q) X.xe s
def wT (e : Expr) : TT := fun t H Q => ∀ pins s, Inv X pins t H s → wpAny (model X.prog X.w) X.A (isTrue e X.env (eval e X.env)) (TP X pins t Q) X.xe s
def wP (e : Expr) : TT := fun t H Q => ∀ whole pins s, Inv X pins t H s → wpAny (model X.prog X.w) X.A (isTrue e X.env whole) (TP X pins t Q) X.xe s
def wA (es : List Expr) : TA := fun t H Q => ∀ pos pins s, Inv X pins t H s → wpAny (model X.prog X.w) X.A (spliced (backTo pos (starEach es X.env))) (AP X pins t Q) X.xe s
def wS (st : Stmt) : TS := fun D t H => ∀ pins s, Inv X pins t H s → wpAny (model X.prog X.w) X.A (exec st X.env) (SP X pins D) X.xe s
def wSs (st : List Stmt) : TS := fun D t H => ∀ pins s, Inv X pins t H s → wpAny (model X.prog X.w) X.A (execs st X.env) (SP X pins D) X.xe s
def wG (tg : Expr) : TG := fun v t H Q => ∀ pins s u, Inv X pins t H s → RelV v u → wpAny (model X.prog X.w) X.A (assign tg X.env u) (fun _ s' => ∃ t' H', Inv X pins t' H' s' ∧ Q t' H') X.xe s
def wGs (ts : List Expr) : TGs := fun vs t H Q => ∀ pins s us, Inv X pins t H s → Vals vs us → wpAny (model X.prog X.w) X.A (assignInOrder ((assignEach ts X.env).map (·.2)) us) (fun _ s' => ∃ t' H', Inv X pins t' H' s' ∧ Q t' H') X.xe s
def wO (e : Option Expr) : TO := fun t H Q => ∀ pins s, Inv X pins t H s → wpAny (model X.prog X.w) X.A (evalPart e X.env) (fun u s' => ∃ o H', Inv X pins t H' s' ∧ IsPart u o ∧ Q o H') X.xe s
def wB (f : Value → Value → Sem Value) : R2 := fun x y H Q => ∀ pins s t v u, Inv X pins t H s → RelV x v → RelV y u → wpAny (model X.prog X.w) X.A (f v u) (EP X pins t Q) X.xe s
def wU (f : Value → Sem Value) : V → Hp → VK → Prop := fun x H Q => ∀ pins s t v, Inv X pins t H s → RelV x v → wpAny (model X.prog X.w) X.A (f v) (EP X pins t Q) X.xe s
def wIx : R2 := fun x y H Q => ∀ (value slice : Expr) pins s t v u, Inv X pins t H s → RelV x v → RelV y u → subscripted slice false v u = operate [v, u] (getItem v u) → wpAny (model X.prog X.w) X.A (subscriptTail value slice v u) (EP X pins t Q) X.xe s
def wC (f : Value) : List V → Hp → VK → Prop := fun xs H Q => ∀ pins s t us, Inv X pins t H s → Vals xs us → wpAny (model X.prog X.w) X.A (call f us) (EP X pins t Q) X.xe s
def wM (id : String) : V → List V → Hp → VK → Prop := fun x xs H Q => ∀ pins s t v us, Inv X pins t H s → RelV x v → Vals xs us → wpAny (model X.prog X.w) X.A (call (.builtin id) (v :: us)) (EP X pins t Q) X.xe s
variable {X}
theorem pe_w {e : Expr} : PE X e (wE X e) := ⟨fun pins s t H Q I h => h pins s I⟩
theorem pt_w {e : Expr} : PT X e (wT X e) := ⟨fun pins s t H Q I h => h pins s I⟩
theorem pw_w {e : Expr} : PW X e (wP X e) := ⟨fun wh pins s t H Q I h => h wh pins s I⟩
theorem pa_w {es : List Expr} : PA X es (wA X es) := ⟨fun pos pins s t H Q I h => h pos pins s I⟩
theorem ps_w {st : Stmt} : PS X st (wS X st) := ⟨fun pins s t H D I h => h pins s I⟩
theorem pss_w {st : List Stmt} : PSs X st (wSs X st) := ⟨fun pins s t H D I h => h pins s I⟩
theorem pg_w {tg : Expr} : PG X tg (wG X tg) := ⟨fun pins s t H v u Q I r h => h pins s u I r⟩
theorem pgs_w {ts : List Expr} : PGs X ts (wGs X ts) := ⟨fun pins s t H vs us Q I r h => h pins s us I r⟩
theorem po_w {e : Option Expr} : PO X e (wO X e) := ⟨fun pins s t H Q I h => h pins s I⟩
theorem op_w {f : Value → Value → Sem Value} : OpR X f (wB X f) := fun pins s t H x y v u Q I rx ry h => h pins s t v u I rx ry
theorem un_w {f : Value → Sem Value} : UnR X f (wU X f) := fun pins s t H x v Q I rx h => h pins s t v I rx
theorem ix_w : IxR X (wIx X) := fun value slice pins s t H x y v u Q I rx ry h hs => h value slice pins s t v u I rx ry hs
theorem call_w {f : Value} : CallR X f (wC X f) := fun pins s t H xs us Q I r h => h pins s t us I r
theorem mt_w {id : String} : MtR X id (wM X id) := fun pins s t H x xs v us Q I rx r h => h pins s t v us I rx r
theorem wE_of {e : Expr} {te : TE} {t : L2.St} {H : Hp} {Q : VK} (p : PE X e te) (h : te t H Q) : wE X e t H Q := fun pins s I => p.run pins s t H Q I h
theorem wT_of {e : Expr} {te : TT} {t : L2.St} {H : Hp} {Q : Bool → Hp → Prop} (p : PT X e te) (h : te t H Q) : wT X e t H Q := fun pins s I => p.run pins s t H Q I h
theorem wP_of {e : Expr} {te : TT} {t : L2.St} {H : Hp} {Q : Bool → Hp → Prop} (p : PW X e te) (h : te t H Q) : wP X e t H Q := fun wh pins s I => p.run wh pins s t H Q I h
theorem wA_of {e : List Expr} {te : TA} {t : L2.St} {H : Hp} {Q : List V → Hp → Prop} (p : PA X e te) (h : te t H Q) : wA X e t H Q := fun pos pins s I => p.run pos pins s t H Q I h
theorem wS_of {e : Stmt} {te : TS} {t : L2.St} {H : Hp} {D : Ends} (p : PS X e te) (h : te D t H) : wS X e D t H := fun pins s I => p.run pins s t H D I h
theorem wSs_of {e : List Stmt} {te : TS} {t : L2.St} {H : Hp} {D : Ends} (p : PSs X e te) (h : te D t H) : wSs X e D t H := fun pins s I => p.run pins s t H D I h
theorem wG_of {e : Expr} {te : TG} {t : L2.St} {H : Hp} {v : V} {Q : L2.St → Hp → Prop} (p : PG X e te) (h : te v t H Q) : wG X e v t H Q := fun pins s u I r => p.run pins s t H v u Q I r h
theorem wGs_of {e : List Expr} {te : TGs} {t : L2.St} {H : Hp} {vs : List V} {Q : L2.St → Hp → Prop} (p : PGs X e te) (h : te vs t H Q) : wGs X e vs t H Q := fun pins s us I r => p.run pins s t H vs us Q I r h
theorem wO_of {e : Option Expr} {te : TO} {t : L2.St} {H : Hp} {Q : Option Int → Hp → Prop} (p : PO X e te) (h : te t H Q) : wO X e t H Q := fun pins s I => p.run pins s t H Q I h
theorem wB_of {f : Value → Value → Sem Value} {r : R2} {x y : V} {H : Hp} {Q : VK} (p : OpR X f r) (h : r x y H Q) : wB X f x y H Q := fun pins s t v u I rx ry => p pins s t H x y v u Q I rx ry h
theorem wU_of {f : Value → Sem Value} {r : V → Hp → VK → Prop} {x : V} {H : Hp} {Q : VK} (p : UnR X f r) (h : r x H Q) : wU X f x H Q := fun pins s t v I rx => p pins s t H x v Q I rx h
theorem wIx_of {r : R2} {x y : V} {H : Hp} {Q : VK} (p : IxR X r) (h : r x y H Q) : wIx X x y H Q := fun value slice pins s t v u I rx ry hs => p value slice pins s t H x y v u Q I rx ry h hs
theorem wC_of {f : Value} {r : List V → Hp → VK → Prop} {xs : List V} {H : Hp} {Q : VK} (p : CallR X f r) (h : r xs H Q) : wC X f xs H Q := fun pins s t us I rx => p pins s t H xs us Q I rx h
theorem wM_of {id : String} {r : V → List V → Hp → VK → Prop} {x : V} {xs : List V} {H : Hp} {Q : VK} (p : MtM X id r) (h : r x xs H Q) : wM X id x xs H Q := fun pins s t v us I rx r => p pins s t H x xs v us Q I rx r h
theorem wM_ofR {id : String} {r : V → List V → Hp → VK → Prop} {x : V} {xs : List V} {H : Hp} {Q : VK} (p : MtR X id r) (h : r x xs H Q) : wM X id x xs H Q := fun pins s t v us I rx r => p pins s t H x xs v us Q I rx r h
end canon

/-! ### the ends, over the store -/
section posts
variable (F : List Addr) (H : Hp)
def Post (Q : D → Store → Prop) (Q' : VK) : Prop := ∀ F' d v H' S', F <+: F' → Keep H H' → RS F' H' S' → RD F' H' d v → Q d S' → Q' v H'
def PostT (Q : Bool → Store → Prop) (Q' : Bool → Hp → Prop) : Prop := ∀ F' b H' S', F <+: F' → Keep H H' → RS F' H' S' → Q b S' → Q' b H'
def PostA (Q : List D → Store → Prop) (Q' : List V → Hp → Prop) : Prop := ∀ F' ds vs H' S', F <+: F' → Keep H H' → RS F' H' S' → RDs F' H' ds vs → Q ds S' → Q' vs H'
def PostO (Q : Option Int → Store → Prop) (Q' : Option Int → Hp → Prop) : Prop := ∀ F' o H' S', F <+: F' → Keep H H' → RS F' H' S' → Q o S' → Q' o H'
def PostG (Q : Fv → Store → Prop) (Q' : L2.St → Hp → Prop) : Prop := ∀ F' e t H' S', F <+: F' → Keep H H' → RE F' H' e t → RS F' H' S' → Q e S' → Q' t H'
structure Ed where
  nx : Fv → Store → Prop
  rt : D → Store → Prop
  bk : Fv → Store → Prop := fun _ _ => False
  ct : Fv → Store → Prop := fun _ _ => False
structure PostS (E : Ed) (E' : Ends) : Prop where
  nx : PostG F H E.nx E'.nx
  rt : Post F H E.rt E'.rt
  bk : PostG F H E.bk E'.bk
  ct : PostG F H E.ct E'.ct
end posts
section
variable {K : PySem.W.Frag} {F F' : List Addr} {H H' : Hp}
theorem Post.mono {Q : D → Store → Prop} {Q' : VK} (h : Post F H Q Q') (p : F <+: F') (k : Keep H H') : Post F' H' Q Q' := fun F2 d v H2 S2 p2 k2 => h F2 d v H2 S2 (p.trans p2) (k.trans k2)
theorem PostT.mono {Q : Bool → Store → Prop} {Q' : Bool → Hp → Prop} (h : PostT F H Q Q') (p : F <+: F') (k : Keep H H') : PostT F' H' Q Q' := fun F2 d H2 S2 p2 k2 => h F2 d H2 S2 (p.trans p2) (k.trans k2)
theorem PostA.mono {Q : List D → Store → Prop} {Q' : List V → Hp → Prop} (h : PostA F H Q Q') (p : F <+: F') (k : Keep H H') : PostA F' H' Q Q' := fun F2 d v H2 S2 p2 k2 => h F2 d v H2 S2 (p.trans p2) (k.trans k2)
theorem PostO.mono {Q : Option Int → Store → Prop} {Q' : Option Int → Hp → Prop} (h : PostO F H Q Q') (p : F <+: F') (k : Keep H H') : PostO F' H' Q Q' := fun F2 d H2 S2 p2 k2 => h F2 d H2 S2 (p.trans p2) (k.trans k2)
theorem PostG.mono {Q : Fv → Store → Prop} {Q' : L2.St → Hp → Prop} (h : PostG F H Q Q') (p : F <+: F') (k : Keep H H') : PostG F' H' Q Q' := fun F2 d v H2 S2 p2 k2 => h F2 d v H2 S2 (p.trans p2) (k.trans k2)
theorem PostS.mono {E : Ed} {E' : Ends} (h : PostS F H E E') (p : F <+: F') (k : Keep H H') : PostS F' H' E E' := ⟨h.nx.mono p k, h.rt.mono p k, h.bk.mono p k, h.ct.mono p k⟩
end

/-! ### the judgements over the store -/
section judg
variable (X : Cx)
def WE (e : Expr) (v : Fv) (S : Store) (Q : D → Store → Prop) : Prop := ∀ F t H Q', RE F H v t → RS F H S → Post F H Q Q' → wE X e t H Q'
def WT (e : Expr) (v : Fv) (S : Store) (Q : Bool → Store → Prop) : Prop := ∀ F t H Q', RE F H v t → RS F H S → PostT F H Q Q' → wT X e t H Q'
def WP (e : Expr) (v : Fv) (S : Store) (Q : Bool → Store → Prop) : Prop := ∀ F t H Q', RE F H v t → RS F H S → PostT F H Q Q' → wP X e t H Q'
def WA (e : List Expr) (v : Fv) (S : Store) (Q : List D → Store → Prop) : Prop := ∀ F t H Q', RE F H v t → RS F H S → PostA F H Q Q' → wA X e t H Q'
def WO (e : Option Expr) (v : Fv) (S : Store) (Q : Option Int → Store → Prop) : Prop := ∀ F t H Q', RE F H v t → RS F H S → PostO F H Q Q' → wO X e t H Q'
def WG (tg : Expr) (d : D) (v : Fv) (S : Store) (Q : Fv → Store → Prop) : Prop := ∀ F t H u Q', RE F H v t → RS F H S → RD F H d u → PostG F H Q Q' → wG X tg u t H Q'
def WGs (tg : List Expr) (ds : List D) (v : Fv) (S : Store) (Q : Fv → Store → Prop) : Prop := ∀ F t H us Q', RE F H v t → RS F H S → RDs F H ds us → PostG F H Q Q' → wGs X tg us t H Q'
/-- n: the places below n stay where they are -/
def WS (n : Nat) (st : Stmt) (v : Fv) (S : Store) (E : Ed) : Prop := ∀ F0 H0 F t H E', F0.length = n → F0 <+: F → Keep H0 H → RE F H v t → RS F H S → PostS F0 H0 E E' → wS X st E' t H
def WSs (n : Nat) (st : List Stmt) (v : Fv) (S : Store) (E : Ed) : Prop := ∀ F0 H0 F t H E', F0.length = n → F0 <+: F → Keep H0 H → RE F H v t → RS F H S → PostS F0 H0 E E' → wSs X st E' t H
/-- by values -/
def BW (f : Value → Value → Sem Value) (x y : D) (S : Store) (Q : D → Store → Prop) : Prop := ∀ F H vx vy Q', RS F H S → RD F H x vx → RD F H y vy → Post F H Q Q' → wB X f vx vy H Q'
def UW (f : Value → Sem Value) (x : D) (S : Store) (Q : D → Store → Prop) : Prop := ∀ F H vx Q', RS F H S → RD F H x vx → Post F H Q Q' → wU X f vx H Q'
def IW (x y : D) (S : Store) (Q : D → Store → Prop) : Prop := ∀ F H vx vy Q', RS F H S → RD F H x vx → RD F H y vy → Post F H Q Q' → wIx X vx vy H Q'
def CW (f : Value) (ds : List D) (S : Store) (Q : D → Store → Prop) : Prop := ∀ F H vs Q', RS F H S → RDs F H ds vs → Post F H Q Q' → wC X f vs H Q'
def MW (id : String) (x : D) (ds : List D) (S : Store) (Q : D → Store → Prop) : Prop := ∀ F H vx vs Q', RS F H S → RD F H x vx → RDs F H ds vs → Post F H Q Q' → wM X id vx vs H Q'
end judg

section rules
variable {X : Cx} {a b c e : Expr} {es : List Expr} {v : Fv} {S : Store} {Q : D → Store → Prop} {pos : Pos}
theorem WE.mono {Q2 : D → Store → Prop} (h : WE X e v S Q) (k : ∀ d S', Q d S' → Q2 d S') : WE X e v S Q2 := fun F t H Q' re rs p => h F t H Q' re rs fun F' d u H' S' a b c r q => p F' d u H' S' a b c r (k _ _ q)
theorem WE.var (i : Nat) {x : Str} {d : D} (hv : v[i]? = some (some d)) (h : Q d S) (hN : X.N[i]? = some x := by rfl) (hx : Vis X.env.scope x := by first | exact Or.inl rfl | exact Or.inr (Or.inl rfl) | exact Or.inr (Or.inr rfl))
    (hd : (x == ("__debug__" : Str)) = false := by decide) (hcd : (x == ("__classdict__" : Str)) = false := by decide) : WE X (.Name x pos) v S Q := fun F t H Q' re rs p => by
  obtain ⟨u, e1, r⟩ := re.at_ i d hv
  exact wE_of (pe_var hN hx hd hcd) ⟨u, e1, p F d u H S (List.prefix_refl F) (Keep.refl H) rs r h⟩
theorem WE.cst {te : V} {d : D} (hp : PE X e (tC te)) (hr : ∀ F H, RD F H d te) (h : Q d S) : WE X e v S Q := fun F t H Q' re rs p =>
  wE_of hp (p F d te H S (List.prefix_refl F) (Keep.refl H) rs (hr F H) h)
theorem WE.int {i : Int} {j : Nat} (h : Q (.int i) S) : WE X (.Constant (.int i) j pos) v S Q := WE.cst (d := .int i) pe_int (fun _ _ => rfl) h
theorem WE.bl {b : Bool} {j : Nat} (h : Q (.bl b) S) : WE X (.Constant (.bool b) j pos) v S Q := WE.cst (d := .bl b) pe_bl (fun _ _ => rfl) h
theorem WE.non {j : Nat} (h : Q .non S) : WE X (.Constant .none j pos) v S Q := WE.cst (d := .non) pe_non (fun _ _ => rfl) h
theorem WE.str {x : Str} {j : Nat} (h : Q (.str x) S) : WE X (.Constant (.str x) j pos) v S Q := WE.cst (d := .str x) pe_str (fun _ _ => rfl) h
/-- a module's int constant -/
theorem WE.globI {x : Str} {i : Int} {tk : Tok} (hm : X.mg x = some (.int i tk)) (h : Q (.int i) S) (hg : Gl X x := by rfl) (hd : (x == ("__debug__" : Str)) = false := by decide) : WE X (.Name x pos) v S Q := WE.cst (d := .int i) (pe_glob hg hm (v := .int i) ⟨tk, rfl⟩ hd) (fun _ _ => rfl) h
theorem WE.globS {x : Str} {i : Str} {tk : Tok} (hm : X.mg x = some (.str i tk)) (h : Q (.str i) S) (hg : Gl X x := by rfl) (hd : (x == ("__debug__" : Str)) = false := by decide) : WE X (.Name x pos) v S Q := WE.cst (d := .str i) (pe_glob hg hm (v := .str i) ⟨tk, rfl⟩ hd) (fun _ _ => rfl) h
theorem WE.globR {x : Str} {i : Addr} (hm : X.mg x = some (.ref i)) (h : Q (.ref i) S) (hg : Gl X x := by rfl) (hd : (x == ("__debug__" : Str)) = false := by decide) : WE X (.Name x pos) v S Q := WE.cst (d := .ref i) (pe_glob hg hm (v := .ref i) rfl hd) (fun _ _ => rfl) h
theorem WE.bty {x : Str} {n : String} (hm : X.mg x = none) (hv : bootBuiltins x = some (.type n)) (h : Q (.ty n) S) (hg : Gl X x := by rfl) (hn : x ≠ "__name__" := by decide) (hd : (x == ("__debug__" : Str)) = false := by decide) : WE X (.Name x pos) v S Q :=
  WE.cst (d := .ty n) (pe_bltn hg hm hv (v := .ty n) rfl hn hd) (fun _ _ => rfl) h
/-- two parts, then the operation on their values -/
theorem WE.bin {op : Operator} (h : WE X a v S fun x S1 => WE X b v S1 fun y S2 => BW X (binaryOp op) x y S2 Q) : WE X (.BinOp a op b pos) v S Q := fun F t H Q' re rs k => by
  refine wE_of (pe_op (op_w (f := binaryOp op)) pe_w pe_w) ?_
  refine h F t H _ re rs fun F1 x vx H1 S1 p1 k1 rs1 r1 h1 => ?_
  refine h1 F1 t H1 _ (re.mono p1 k1) rs1 fun F2 y vy H2 S2 p2 k2 rs2 r2 h2 => ?_
  exact h2 F2 H2 vx vy Q' rs2 (r1.mono p2 k2) r2 (k.mono (p1.trans p2) (k1.trans k2))
theorem WE.un {op : UnaryOp} (h : WE X a v S fun x S1 => UW X (unaryOp op) x S1 Q) : WE X (.UnaryOp op a pos) v S Q := fun F t H Q' re rs k => by
  refine wE_of (pe_un (un_w (f := unaryOp op)) pe_w) ?_
  refine h F t H _ re rs fun F1 x vx H1 S1 p1 k1 rs1 r1 h1 => ?_
  exact h1 F1 H1 vx Q' rs1 r1 (k.mono p1 k1)
theorem WE.cmp {op : CmpOp} (h : WE X a v S fun x S1 => WE X b v S1 fun y S2 => BW X (compareOp op) x y S2 Q) (hm : behindInMarks op b = false := by first | exact nobehind _ (by decide) (by decide) | rfl) : WE X (.Compare a [op] [b] pos) v S Q := fun F t H Q' re rs k => by
  refine wE_of (pe_cmpR (op_w (f := compareOp op)) pe_w pe_w hm) ?_
  refine h F t H _ re rs fun F1 x vx H1 S1 p1 k1 rs1 r1 h1 => ?_
  refine h1 F1 t H1 _ (re.mono p1 k1) rs1 fun F2 y vy H2 S2 p2 k2 rs2 r2 h2 => ?_
  exact h2 F2 H2 vx vy Q' rs2 (r1.mono p2 k2) r2 (k.mono (p1.trans p2) (k1.trans k2))
theorem WT.cmp {op : CmpOp} {Q : Bool → Store → Prop} (h : WE X a v S fun x S1 => WE X b v S1 fun y S2 => BW X (compareOp op) x y S2 fun z S3 => ∃ k, z = .bl k ∧ Q k S3) (hm : behindInMarks op b = false := by first | exact nobehind _ (by decide) (by decide) | rfl) : WT X (.Compare a [op] [b] pos) v S Q := fun F t H Q' re rs k => by
  refine wT_of (pt_cmpR (op_w (f := compareOp op)) pe_w pe_w hm) ?_
  refine h F t H _ re rs fun F1 x vx H1 S1 p1 k1 rs1 r1 h1 => ?_
  refine h1 F1 t H1 _ (re.mono p1 k1) rs1 fun F2 y vy H2 S2 p2 k2 rs2 r2 h2 => ?_
  refine h2 F2 H2 vx vy _ rs2 (r1.mono p2 k2) r2 fun F3 z vz H3 S3 p3 k3 rs3 r3 q => ?_
  obtain ⟨b, rfl, q⟩ := q
  exact ⟨b, r3, k F3 b H3 S3 ((p1.trans p2).trans p3) ((k1.trans k2).trans k3) rs3 q⟩
/-- a op b op' c -/
theorem WE.chain {op op' : CmpOp} (h : WE X a v S fun x S1 => WE X b v S1 fun y S2 => BW X (compareOp op) x y S2 fun z S3 => ∃ k, z = .bl k ∧ (k = true → WE X c v S3 fun w S4 => BW X (compareOp op') y w S4 Q) ∧ (k = false → Q (.bl false) S3))
    (hm : lastMarks [op, op'] [b, c] = false := by with_unfolding_all rfl) : WE X (.Compare a [op, op'] [b, c] pos) v S Q := fun F t H Q' re rs k => by
  refine wE_of (pe_chain (op_w (f := compareOp op)) (op_w (f := compareOp op')) pe_w pe_w pe_w hm) ?_
  refine h F t H _ re rs fun F1 x vx H1 S1 p1 k1 rs1 r1 h1 => ?_
  refine h1 F1 t H1 _ (re.mono p1 k1) rs1 fun F2 y vy H2 S2 p2 k2 rs2 r2 h2 => ?_
  refine h2 F2 H2 vx vy _ rs2 (r1.mono p2 k2) r2 fun F3 z vz H3 S3 p3 k3 rs3 r3 q => ?_
  obtain ⟨b, rfl, qt, qf⟩ := q
  refine ⟨b, r3, ?_⟩
  have p13 := (p1.trans p2).trans p3
  have k13 := (k1.trans k2).trans k3
  cases b with
  | false => exact iteF (k F3 (.bl false) _ H3 S3 p13 k13 rs3 rfl (qf rfl))
  | true =>
    refine iteT (qt rfl F3 t H3 _ (re.mono p13 k13) rs3 fun F4 w vw H4 S4 p4 k4 rs4 r4 h4 => ?_)
    exact h4 F4 H4 vy vw Q' rs4 (r2.mono (p3.trans p4) (k3.trans k4)) r4 (k.mono (p13.trans p4) (k13.trans k4))
/-- tests -/
theorem WT.val {Q : Bool → Store → Prop} (h : WE X e v S fun d S1 => ∃ k, d = .bl k ∧ Q k S1) (he : ∀ whole, isTrue e X.env whole = (do let v ← whole; standAt e.pos; holding [v] (truthy v)) := by intro _; rfl) : WT X e v S Q := fun F t H Q' re rs k => by
  refine wT_of (pt_val pe_w he) ?_
  refine h F t H _ re rs fun F1 x vx H1 S1 p1 k1 rs1 r1 h1 => ?_
  obtain ⟨b, rfl, q⟩ := h1
  exact ⟨b, r1, k F1 b H1 S1 p1 k1 rs1 q⟩
theorem WT.not {Q : Bool → Store → Prop} (h : WT X a v S fun c S1 => Q (!c) S1) : WT X (.UnaryOp .Not a pos) v S Q := fun F t H Q' re rs k => by
  refine wT_of (pt_not pt_w) ?_
  exact h F t H _ re rs fun F1 b H1 S1 p1 k1 rs1 q => k F1 _ H1 S1 p1 k1 rs1 q
theorem WT.bool {op : BoolOp} {Q : Bool → Store → Prop} (h : WP X (.BoolOp op es pos) v S Q) : WT X (.BoolOp op es pos) v S Q := fun F t H Q' re rs k => wT_of (PW.pt pw_w) (h F t H Q' re rs k)
theorem WP.and1 {Q : Bool → Store → Prop} (h : WT X a v S Q) : WP X (.BoolOp .And [a] pos) v S Q := fun F t H Q' re rs k => wP_of (pw_and1 pt_w) (h F t H Q' re rs k)
theorem WP.or1 {Q : Bool → Store → Prop} (h : WT X a v S Q) : WP X (.BoolOp .Or [a] pos) v S Q := fun F t H Q' re rs k => wP_of (pw_or1 pt_w) (h F t H Q' re rs k)
theorem WP.and {Q : Bool → Store → Prop} (h : WT X a v S fun k S1 => (k = true → WP X (.BoolOp .And (b :: es) pos) v S1 Q) ∧ (k = false → Q false S1)) : WP X (.BoolOp .And (a :: b :: es) pos) v S Q := fun F t H Q' re rs k => by
  refine wP_of (pw_and pt_w pw_w) ?_
  refine h F t H _ re rs fun F1 c H1 S1 p1 k1 rs1 q => ?_
  cases c with
  | true => exact iteT (q.1 rfl F1 t H1 _ (re.mono p1 k1) rs1 (k.mono p1 k1))
  | false => exact iteF (k F1 _ H1 S1 p1 k1 rs1 (q.2 rfl))
theorem WP.or {Q : Bool → Store → Prop} (h : WT X a v S fun k S1 => (k = true → Q true S1) ∧ (k = false → WP X (.BoolOp .Or (b :: es) pos) v S1 Q)) : WP X (.BoolOp .Or (a :: b :: es) pos) v S Q := fun F t H Q' re rs k => by
  refine wP_of (pw_or pt_w pw_w) ?_
  refine h F t H _ re rs fun F1 c H1 S1 p1 k1 rs1 q => ?_
  cases c with
  | true => exact iteT (k F1 _ H1 S1 p1 k1 rs1 (q.1 rfl))
  | false => exact iteF (q.2 rfl F1 t H1 _ (re.mono p1 k1) rs1 (k.mono p1 k1))
/-- and, or, not as values: all but the last are bools -/
theorem WE.one {op : BoolOp} (h : WE X a v S Q) : WE X (.BoolOp op [a] pos) v S Q := fun F t H Q' re rs k => wE_of (pe_one pe_w) (h F t H Q' re rs k)
theorem WE.and (h : WE X a v S fun d S1 => ∃ k, d = .bl k ∧ (k = true → WE X (.BoolOp .And (b :: es) pos) v S1 Q) ∧ (k = false → Q (.bl false) S1)) : WE X (.BoolOp .And (a :: b :: es) pos) v S Q := fun F t H Q' re rs k => by
  refine wE_of (pe_and pe_w pe_w) ?_
  refine h F t H _ re rs fun F1 c vc H1 S1 p1 k1 rs1 r1 q => ?_
  obtain ⟨b, rfl, qt, qf⟩ := q
  refine ⟨b, r1, ?_⟩
  cases b with
  | true => exact iteT (qt rfl F1 t H1 _ (re.mono p1 k1) rs1 (k.mono p1 k1))
  | false => exact iteF (k F1 (.bl false) _ H1 S1 p1 k1 rs1 rfl (qf rfl))
theorem WE.or (h : WE X a v S fun d S1 => ∃ k, d = .bl k ∧ (k = true → Q (.bl true) S1) ∧ (k = false → WE X (.BoolOp .Or (b :: es) pos) v S1 Q)) : WE X (.BoolOp .Or (a :: b :: es) pos) v S Q := fun F t H Q' re rs k => by
  refine wE_of (pe_or pe_w pe_w) ?_
  refine h F t H _ re rs fun F1 c vc H1 S1 p1 k1 rs1 r1 q => ?_
  obtain ⟨b, rfl, qt, qf⟩ := q
  refine ⟨b, r1, ?_⟩
  cases b with
  | true => exact iteT (k F1 (.bl true) _ H1 S1 p1 k1 rs1 rfl (qt rfl))
  | false => exact iteF (qf rfl F1 t H1 _ (re.mono p1 k1) rs1 (k.mono p1 k1))
theorem WE.not (h : WE X a v S fun d S1 => ∃ k, d = .bl k ∧ Q (.bl (!k)) S1) : WE X (.UnaryOp .Not a pos) v S Q := fun F t H Q' re rs k => by
  refine wE_of (pe_not pe_w) ?_
  refine h F t H _ re rs fun F1 c vc H1 S1 p1 k1 rs1 r1 q => ?_
  obtain ⟨b, rfl, q⟩ := q
  exact ⟨b, r1, k F1 (.bl (!b)) _ H1 S1 p1 k1 rs1 rfl q⟩
theorem WE.ite (h : WT X c v S fun k S1 => (k = true → WE X a v S1 Q) ∧ (k = false → WE X b v S1 Q)) : WE X (.IfExp c a b pos) v S Q := fun F t H Q' re rs k => by
  refine wE_of (pe_ifExp pt_w pe_w pe_w) ?_
  refine h F t H _ re rs fun F1 c H1 S1 p1 k1 rs1 q => ?_
  cases c with
  | true => exact iteT (q.1 rfl F1 t H1 _ (re.mono p1 k1) rs1 (k.mono p1 k1))
  | false => exact iteF (q.2 rfl F1 t H1 _ (re.mono p1 k1) rs1 (k.mono p1 k1))
/-- argument lists -/
theorem WA.nil {Q : List D → Store → Prop} (h : Q [] S) : WA X [] v S Q := fun F t H Q' re rs k => wA_of pa_nil (k F [] [] H S (List.prefix_refl F) (Keep.refl H) rs rfl h)
theorem WA.cons {Q : List D → Store → Prop} (h : WE X e v S fun x S1 => WA X es v S1 fun xs S2 => Q (x :: xs) S2) (hs : starEach (e :: es) X.env = (false, eval e X.env) :: starEach es X.env := by rfl) : WA X (e :: es) v S Q := fun F t H Q' re rs k => by
  refine wA_of (pa_cons pe_w pa_w hs) ?_
  refine h F t H _ re rs fun F1 x vx H1 S1 p1 k1 rs1 r1 h1 => ?_
  refine h1 F1 t H1 _ (re.mono p1 k1) rs1 fun F2 ds vs H2 S2 p2 k2 rs2 r2 h2 => ?_
  exact k F2 (x :: ds) (vx :: vs) H2 S2 (p1.trans p2) (k1.trans k2) rs2 ⟨vx, vs, rfl, r1.mono p2 k2, r2⟩ h2
/-- a written tuple, a written list -/
theorem WE.tup {x1} (h : WA X es v S fun xs S1 => xs.length ≤ sizeLine ∧ Q (.tup xs) S1) : WE X (.Tuple es x1 pos) v S Q := fun F t H Q' re rs k => by
  refine wE_of (pe_tup pa_w) ?_
  refine h F t H _ re rs fun F1 ds vs H1 S1 p1 k1 rs1 r1 h1 => ⟨by rw [r1.length]; exact h1.1, fun p hp => ?_⟩
  refine k F1 (.tup ds) (.ref p) (upd H1 p (.tup vs)) S1 p1 (k1.trans (Keep.new hp)) (rs1.other hp) ⟨p, vs, rfl, upd_same, r1.mono (List.prefix_refl F1) (Keep.new hp)⟩ h1.2
theorem WE.lst (h : WA X es v S fun xs S1 => xs.length ≤ sizeLine ∧ Q (.loc S1.length) (S1 ++ [.lst xs])) : WE X (.List es pos) v S Q := fun F t H Q' re rs k => by
  refine wE_of (pe_lst pa_w) ?_
  refine h F t H _ re rs fun F1 ds vs H1 S1 p1 k1 rs1 r1 h1 => ⟨by rw [r1.length]; exact h1.1, fun p hp => ?_⟩
  exact k (F1 ++ [p]) (.loc S1.length) _ _ _ (p1.trans ⟨[p], rfl⟩) (k1.trans (Keep.new hp)) (rs1.new (o := .lst ds) hp ⟨vs, rfl, r1⟩) ⟨p, rfl, by rw [← rs1.len]; simp⟩ h1.2
/-- subscripts -/
theorem WE.ix (h : WE X a v S fun x S1 => WE X b v S1 fun y S2 => IW X x y S2 Q) (hs : PlainIx b := by intro _ _; rfl) : WE X (.Subscript a b pos) v S Q := fun F t H Q' re rs k => by
  refine wE_of (pe_ix (ix_w) pe_w pe_w hs) ?_
  refine h F t H _ re rs fun F1 x vx H1 S1 p1 k1 rs1 r1 h1 => ?_
  refine h1 F1 t H1 _ (re.mono p1 k1) rs1 fun F2 y vy H2 S2 p2 k2 rs2 r2 h2 => ?_
  exact h2 F2 H2 vx vy Q' rs2 (r1.mono p2 k2) r2 (k.mono (p1.trans p2) (k1.trans k2))
end rules
end DM

namespace DM
open PySem PySem.Spec PyProof.Rows L2
/-! ### forgetting: a state seen with fewer, or other, names for its places -/
/-- the places below n stay; S2 tells a part of S -/
def CovE (n : Nat) (v : Fv) (S : Store) (v2 : Fv) (S2 : Store) : Prop := ∀ F H t, RE F H v t → RS F H S → ∃ F2, F.take n <+: F2 ∧ RE F2 H v2 t ∧ RS F2 H S2
def CovD (n : Nat) (d : D) (S : Store) (d2 : D) (S2 : Store) : Prop := ∀ F H u, RD F H d u → RS F H S → ∃ F2, F.take n <+: F2 ∧ RD F2 H d2 u ∧ RS F2 H S2
def CovS (n : Nat) (S : Store) (S2 : Store) : Prop := ∀ F H, RS F H S → ∃ F2, F.take n <+: F2 ∧ RS F2 H S2
def WkE (n : Nat) (v : Fv) (S : Store) (P : Fv → Store → Prop) : Prop := ∃ v2 S2, CovE n v S v2 S2 ∧ P v2 S2
def WkD (n : Nat) (d : D) (S : Store) (P : D → Store → Prop) : Prop := ∃ d2 S2, CovD n d S d2 S2 ∧ P d2 S2
theorem CovE.refl {n : Nat} {v : Fv} {S : Store} : CovE n v S v S := fun F H t re rs => ⟨F, List.take_prefix n F, re, rs⟩
theorem CovD.refl {n : Nat} {d : D} {S : Store} : CovD n d S d S := fun F H t re rs => ⟨F, List.take_prefix n F, re, rs⟩
theorem WkE.same {n : Nat} {v : Fv} {S : Store} {P : Fv → Store → Prop} (h : P v S) : WkE n v S P := ⟨v, S, CovE.refl, h⟩
theorem WkD.same {n : Nat} {d : D} {S : Store} {P : D → Store → Prop} (h : P d S) : WkD n d S P := ⟨d, S, CovD.refl, h⟩
theorem pre_of_take {F0 F : List Addr} {n : Nat} (hl : F0.length = n) (p : F0 <+: F) : F0 = F.take n := by
  obtain ⟨t, rfl⟩ := p
  rw [← hl]
  simp

section stm
variable {X : Cx} {n : Nat} {a b c e o : Expr} {st : Stmt} {es : List Expr} {sts : List Stmt} {v : Fv} {S : Store} {E : Ed} {pos pos' : Pos}
theorem WSs.nil (h : E.nx v S) : WSs X n [] v S E := fun F0 H0 F t H E' hl p k re rs q => wSs_of pss_nil (q.nx F v t H S p k re rs h)
theorem WSs.cons (h : WS X n st v S { E with nx := fun v1 S1 => WSs X n sts v1 S1 E }) : WSs X n (st :: sts) v S E := fun F0 H0 F t H E' hl p k re rs q => by
  refine wSs_of (pss_cons ps_w pss_w) ?_
  exact h F0 H0 F t H _ hl p k re rs ⟨fun F1 v1 t1 H1 S1 p1 k1 re1 rs1 h1 => h1 F0 H0 F1 t1 H1 E' hl p1 k1 re1 rs1 q, q.rt, q.bk, q.ct⟩
theorem WSs.one (h : WS X n st v S E) : WSs X n [st] v S E := fun F0 H0 F t H E' hl p k re rs q => wSs_of (pss_one ps_w) (h F0 H0 F t H E' hl p k re rs q)
theorem WS.imp {E2 : Ed} (h : WS X n st v S E) (h1 : ∀ v S, E.nx v S → E2.nx v S) (h2 : ∀ v S, E.rt v S → E2.rt v S) (h3 : ∀ v S, E.bk v S → E2.bk v S) (h4 : ∀ v S, E.ct v S → E2.ct v S) : WS X n st v S E2 :=
  fun F0 H0 F t H E' hl p k re rs q => h F0 H0 F t H E' hl p k re rs ⟨fun F1 v1 t1 H1 S1 p1 k1 re1 rs1 z => q.nx F1 v1 t1 H1 S1 p1 k1 re1 rs1 (h1 _ _ z), fun F1 v1 t1 H1 S1 p1 k1 re1 rs1 z => q.rt F1 v1 t1 H1 S1 p1 k1 re1 rs1 (h2 _ _ z), fun F1 v1 t1 H1 S1 p1 k1 re1 rs1 z => q.bk F1 v1 t1 H1 S1 p1 k1 re1 rs1 (h3 _ _ z), fun F1 v1 t1 H1 S1 p1 k1 re1 rs1 z => q.ct F1 v1 t1 H1 S1 p1 k1 re1 rs1 (h4 _ _ z)⟩
/-- forget ahead of a block -/
theorem WSs.wk {v2 : Fv} {S2 : Store} (c : CovE n v S v2 S2) (h : WSs X n sts v2 S2 E) : WSs X n sts v S E := fun F0 H0 F t H E' hl p k re rs q => by
  obtain ⟨F2, p2, re2, rs2⟩ := c F H t re rs
  rw [← pre_of_take hl p] at p2
  exact h F0 H0 F2 t H E' hl p2 k re2 rs2 q
theorem WS.pass (h : E.nx v S) : WS X n (.Pass pos) v S E := fun F0 H0 F t H E' hl p k re rs q => wS_of ps_pass (q.nx F v t H S p k re rs h)
theorem WS.break (h : E.bk v S) : WS X n (.Break pos) v S E := fun F0 H0 F t H E' hl p k re rs q => wS_of ps_break (q.bk F v t H S p k re rs h)
theorem WS.continue (h : E.ct v S) : WS X n (.Continue pos) v S E := fun F0 H0 F t H E' hl p k re rs q => wS_of ps_continue (q.ct F v t H S p k re rs h)
theorem WS.expr (h : WE X e v S fun _ S1 => E.nx v S1) (hs : swapsWith e none pos.line X.env = pure false := by rfl) : WS X n (.Expr e pos) v S E := fun F0 H0 F t H E' hl p k re rs q => by
  refine wS_of (ps_expr pe_w hs) ?_
  exact h F t H _ re rs fun F1 d u H1 S1 p1 k1 rs1 r1 h1 => q.nx F1 v t H1 S1 (p.trans p1) (k.trans k1) (re.mono p1 k1) rs1 h1
theorem WS.ret (h : WE X e v S E.rt) : WS X n (.Return (some e) pos) v S E := fun F0 H0 F t H E' hl p k re rs q => by
  refine wS_of (ps_ret pe_w) ?_
  exact h F t H _ re rs fun F1 d u H1 S1 p1 k1 rs1 r1 h1 => q.rt F1 d u H1 S1 (p.trans p1) (k.trans k1) rs1 r1 h1
theorem WS.retN (h : E.rt .non S) : WS X n (.Return none pos) v S E := fun F0 H0 F t H E' hl p k re rs q => by
  refine wS_of ps_retN ?_
  exact q.rt F .non .non H S p k rs rfl h
theorem WS.ite {A B : List Stmt} (h : WT X c v S fun k S1 => (k = true → WSs X n A v S1 E) ∧ (k = false → WSs X n B v S1 E)) : WS X n (.If c A B pos) v S E := fun F0 H0 F t H E' hl p k re rs q => by
  refine wS_of (ps_if pt_w pss_w pss_w) ?_
  refine h F t H _ re rs fun F1 b H1 S1 p1 k1 rs1 h1 => ?_
  cases b with
  | true => exact iteT (h1.1 rfl F0 H0 F1 t H1 E' hl (p.trans p1) (k.trans k1) (re.mono p1 k1) rs1 q)
  | false => exact iteF (h1.2 rfl F0 H0 F1 t H1 E' hl (p.trans p1) (k.trans k1) (re.mono p1 k1) rs1 q)
theorem RE.set {F : List Addr} {H : Hp} {t : L2.St} {i : Nat} {d : D} {u : V} (re : RE F H v t) (r : RD F H d u) : RE F H (v.set i (some d)) (t.set i (some u)) :=
  ⟨by simp [re.len], fun j d' h => by
    by_cases hj : i = j
    · subst hj
      have hi : i < v.length := by
        have := (List.getElem?_eq_some_iff.mp h).1
        simpa using this
      rw [List.getElem?_set_self hi] at h
      cases h
      exact ⟨u, by rw [List.getElem?_set_self (by rw [← re.len]; exact hi)], r⟩
    · rw [List.getElem?_set_ne hj] at h
      obtain ⟨w, q1, q2⟩ := re.at_ j d' h
      exact ⟨w, by rw [List.getElem?_set_ne hj]; exact q1, q2⟩⟩
theorem RE.drop {F : List Addr} {H : Hp} {t : L2.St} {i : Nat} (re : RE F H v t) : RE F H (v.set i none) (t.set i none) :=
  ⟨by simp [re.len], fun j d' h => by
    by_cases hj : i = j
    · subst hj
      have hi : i < v.length := by
        have := (List.getElem?_eq_some_iff.mp h).1
        simpa using this
      rw [List.getElem?_set_self hi] at h
      cases h
    · rw [List.getElem?_set_ne hj] at h
      obtain ⟨w, q1, q2⟩ := re.at_ j d' h
      exact ⟨w, by rw [List.getElem?_set_ne hj]; exact q1, q2⟩⟩
/-- name = e -/
theorem WS.set (i : Nat) {x : Str} {px : Pos} (h : WE X e v S fun d S1 => E.nx (v.set i (some d)) S1) (hN : X.N.Nodup) (hi : X.N[i]? = some x := by rfl) (hx : Loc X.env.scope x := by first | exact Or.inl rfl | exact Or.inr rfl)
    (hs : swapsWith e (some (.Name x px)) pos.line X.env = pure false := by rfl) (hf : X.fn x = true ∨ X.env.scope.names.lookup x = some .local := by first | exact .inl rfl | exact .inr rfl) : WS X n (.Assign [.Name x px] e pos) v S E := fun F0 H0 F t H E' hl p k re rs q => by
  refine wS_of (ps_set hN hi hx pe_w hs hf) ?_
  exact h F t H _ re rs fun F1 d u H1 S1 p1 k1 rs1 r1 h1 => q.nx F1 _ _ H1 S1 (p.trans p1) (k.trans k1) ((re.mono p1 k1).set r1) rs1 h1
/-- target = e -/
theorem WS.asg {tg : Expr} (h : WE X e v S fun d S1 => WG X tg d v S1 E.nx) (hs : swapsWithSole [tg] e pos.line X.env = pure false := by rfl) (hw : swappedStores [tg] e X.env = pure none := by rfl) (h1 : (assignEach [tg] X.env).map (·.2) = [assign tg X.env] := by rfl) : WS X n (.Assign [tg] e pos) v S E := fun F0 H0 F t H E' hl p k re rs q => by
  refine wS_of (ps_asg pe_w pg_w hs hw h1) ?_
  refine h F t H _ re rs fun F1 d u H1 S1 p1 k1 rs1 r1 h1 => ?_
  exact h1 F1 t H1 u _ (re.mono p1 k1) rs1 r1 (q.nx.mono (p.trans p1) (k.trans k1))
/-- a, b = e1, e2, two names -/
theorem WS.par (i j : Nat) {x y : Str} {px py pt : Pos} {kt k2 pt2} (h : WA X [a, b] v S fun ds S1 => ∃ d1 d2, ds = [d1, d2] ∧ E.nx ((v.set i (some d1)).set j (some d2)) S1) (hc : X.calm = true) (hN : X.N.Nodup) (hi : X.N[i]? = some x := by rfl) (hj : X.N[j]? = some y := by rfl) (hij : i ≠ j := by decide)
    (hx : X.env.scope.names.lookup x = some .local := by rfl) (hy : X.env.scope.names.lookup y = some .local := by rfl)
    (hw : swappedStores [.Tuple [.Name x px, .Name y py] kt pt] (.Tuple [a, b] k2 pt2) X.env = pure (some [x, y]) := by rfl)
    (hs : swapsWithSole [.Tuple [.Name x px, .Name y py] kt pt] (.Tuple [a, b] k2 pt2) pos.line X.env = pure false := by rfl) : WS X n (.Assign [.Tuple [.Name x px, .Name y py] kt pt] (.Tuple [a, b] k2 pt2) pos) v S E := fun F0 H0 F t H E' hl p k re rs q => by
  refine wS_of (ps_par hc hN hi hj hij hx hy pa_w hw hs) ?_
  refine h F t H _ re rs fun F1 ds vs H1 S1 p1 k1 rs1 r1 h1 => ?_
  obtain ⟨d1, d2, rfl, h1⟩ := h1
  obtain ⟨v1, _, e1, q1, v2, _, e2, q2, e3⟩ := r1
  subst e1 e2 e3
  exact ⟨v1, v2, rfl, q.nx F1 _ _ H1 S1 (p.trans p1) (k.trans k1) (((re.mono p1 k1).set q1).set q2) rs1 h1⟩
/-- targets -/
theorem WG.name (i : Nat) {x : Str} {d : D} {Q : Fv → Store → Prop} (h : Q (v.set i (some d)) S) (hN : X.N.Nodup) (hi : X.N[i]? = some x := by rfl) (hx : Loc X.env.scope x := by first | exact Or.inl rfl | exact Or.inr rfl)
    (hf : X.fn x = true ∨ X.env.scope.names.lookup x = some .local := by first | exact .inl rfl | exact .inr rfl) : WG X (.Name x pos) d v S Q := fun F t H u Q' re rs r k => by
  refine wG_of (pg_name hN hi hx hf) ?_
  exact k F _ _ H S (List.prefix_refl F) (Keep.refl H) (re.set r) rs h
theorem WGs.nil {Q : Fv → Store → Prop} (h : Q v S) : WGs X [] [] v S Q := fun F t H us Q' re rs r k => by
  cases (show us = [] from r)
  exact wGs_of pgs_nil ⟨rfl, k F v t H S (List.prefix_refl F) (Keep.refl H) re rs h⟩
theorem WGs.cons {d : D} {ds : List D} {Q : Fv → Store → Prop} (h : WG X e d v S fun v1 S1 => WGs X es ds v1 S1 Q) (hs : (assignEach (e :: es) X.env).map (·.2) = assign e X.env :: (assignEach es X.env).map (·.2) := by rfl) : WGs X (e :: es) (d :: ds) v S Q := fun F t H us Q' re rs r k => by
  obtain ⟨u, ur, rfl, r1, r2⟩ := r
  refine wGs_of (pgs_cons pg_w pgs_w hs) ⟨u, ur, rfl, ?_⟩
  refine h F t H u _ re rs r1 fun F1 v1 t1 H1 S1 p1 k1 re1 rs1 h1 => ?_
  exact h1 F1 t1 H1 ur Q' re1 rs1 (RDs.mono p1 k1 _ _ r2) (k.mono p1 k1)
theorem WG.tup {d : D} {Q : Fv → Store → Prop} {kk : Nat} {ds : List D} (hd : d = .tup ds) (h : WGs X es ds v S Q) (hc : X.calm = true) (hn : (assignEach es X.env).length = ds.length := by rfl) (hst : (assignEach es X.env).findIdx? (·.1) = none := by rfl) : WG X (.Tuple es kk pos) d v S Q := fun F t H u Q' re rs r k => by
  subst hd
  obtain ⟨p, vs, rfl, sq, rs'⟩ := r
  exact wG_of (pg_tup hc pgs_w hn hst) ⟨p, vs, rfl, SqT.of sq, rs'.length, h F t H vs Q' re rs rs' k⟩
/-- o[i] = .., a list -/
theorem WG.setL {d : D} {Q : Fv → Store → Prop} (h : WE X o v S fun x S1 => WE X e v S1 fun y S2 => ∃ l xs i j, x = .loc l ∧ y = .int i ∧ S2[l]? = some (.lst xs) ∧ ixN xs.length i = some j ∧ Q v (S2.set l (.lst (xs.set j d))))
    (ha : ∀ v, assign (.Subscript o e pos) X.env v = (do
      let ov ← holding [v] (eval o X.env)
      let iv ← holding [v, ov] (eval e X.env)
      standAt pos
      holding [v, ov, iv] (setItem ov iv v)
      release [v, ov, iv] []) := by intro _; rfl) : WG X (.Subscript o e pos) d v S Q := fun F t H u Q' re rs r k => by
  refine wG_of (pg_sub pe_w pe_w set_list ha) ?_
  refine h F t H _ re rs fun F1 x vx H1 S1 p1 k1 rs1 r1 h1 => ?_
  refine h1 F1 t H1 _ (re.mono p1 k1) rs1 fun F2 y vy H2 S2 p2 k2 rs2 r2 h2 => ?_
  obtain ⟨l, xs, i, j, rfl, rfl, hl, hj, q⟩ := h2
  obtain ⟨a, rfl, ha⟩ := r1
  cases r2
  obtain ⟨a', h', e1, e2, vs, e3, e4⟩ := rs2.get hl
  have ea : a = a' := by
    have := pre_get p2 ha
    rw [e1] at this
    exact (Option.some.inj this).symm
  subst ea
  subst e3
  refine ⟨a, vs, i, j, rfl, rfl, e2, by rw [e4.length]; exact hj, ?_⟩
  have kk : Keep H2 (upd H2 a (.lst (vs.set j u))) := Keep.upd e2 trivial
  exact k F2 v t _ _ (p1.trans p2) ((k1.trans k2).trans kk) (((re.mono p1 k1).mono p2 k2).mono (List.prefix_refl F2) kk) (rs2.set (o := .lst (xs.set j d)) e1 e2 trivial ⟨_, rfl, RDs.set (RD.mono p2 k2 _ _ (RD.mono p1 k1 _ _ r)) j e4⟩) q

/-! ### fields -/
theorem RKs.lookup {F : List Addr} {H : Hp} {f : Str} : ∀ {fs : List (Str × D)} {vs : List (Str × V)}, RKs F H fs vs → (fs.lookup f = none → vs.lookup f = none) ∧ ∀ d, fs.lookup f = some d → ∃ u, vs.lookup f = some u ∧ RD F H d u
  | [], vs, h => by
    cases (show vs = [] from h)
    exact ⟨fun _ => rfl, fun d q => by cases q⟩
  | (g, x) :: fs, _, ⟨u, r, e, h1, h2⟩ => by
    subst e
    have ih := RKs.lookup (f := f) h2
    by_cases hk : f = g
    · have hb : (f == g) = true := beq_iff_eq.mpr hk
      simp only [List.lookup, hb]
      exact ⟨fun z => (by cases z), fun d q => ⟨u, rfl, (by cases q; exact h1)⟩⟩
    · have hb : (f == g) = false := beq_eq_false_iff_ne.mpr hk
      simp only [List.lookup, hb]
      exact ih
def putD (f : Str) (y : D) : List (Str × D) → List (Str × D)
  | [] => [(f, y)]
  | (g, x) :: r => if g = f then (g, y) :: r else (g, x) :: putD f y r
theorem RKs.putF {F : List Addr} {H : Hp} {f : Str} {d : D} {u : V} (r : RD F H d u) : ∀ {fs : List (Str × D)} {vs : List (Str × V)}, RKs F H fs vs → RKs F H (putD f d fs) (L2.putF f u vs)
  | [], vs, h => by
    cases (show vs = [] from h)
    exact ⟨u, [], rfl, r, rfl⟩
  | (g, x) :: fs, _, ⟨w, r', e, h1, h2⟩ => by
    subst e
    unfold putD L2.putF
    by_cases hk : g = f
    · rw [if_pos hk, if_pos hk]
      exact ⟨u, r', rfl, r, h2⟩
    · rw [if_neg hk, if_neg hk]
      exact ⟨w, _, rfl, h1, RKs.putF r h2⟩
variable {C : Addr} {f : Str} {Q : D → Store → Prop}
theorem WE.fld (h : WE X o v S fun d S1 => ∃ l fs y, d = .loc l ∧ S1[l]? = some (.ins C fs) ∧ fs.lookup f = some y ∧ Q y S1) (c : Cls X.K C) (na : NoAttr X.K C f) (hb : attributeBase o f X.env (eval o X.env) = eval o X.env := by rfl) : WE X (.Attribute o f pos) v S Q := fun F t H Q' re rs k => by
  refine wE_of (pe_fld pe_w hb) ?_
  refine h F t H _ re rs fun F1 d u H1 S1 p1 k1 rs1 r1 h1 => ?_
  obtain ⟨l, fs, y, rfl, hl, hf, q⟩ := h1
  obtain ⟨a, rfl, ha⟩ := r1
  obtain ⟨a', h', e1, e2, dx, vs, e3, e4⟩ := rs1.get hl
  rw [e1] at ha; cases ha
  subst e3
  obtain ⟨uy, g1, g2⟩ := e4.lookup.2 y hf
  exact ⟨a, C, dx, vs, uy, rfl, e2, c, na, g1, k F1 y uy H1 S1 p1 k1 rs1 g2 q⟩
theorem WS.fld (h : WE X e v S fun y S1 => WE X o v S1 fun d S2 => ∃ l fs, d = .loc l ∧ S2[l]? = some (.ins C fs) ∧ fs.length < 1000 ∧ E.nx v (S2.set l (.ins C (putD f y fs)))) (c : Cls X.K C) (na : NoAttr X.K C f)
    (hs : swapsWith e (some (.Attribute o f pos')) pos.line X.env = pure false := by rfl) : WS X n (.Assign [.Attribute o f pos'] e pos) v S E := fun F0 H0 F t H E' hl p k re rs q => by
  refine wS_of (ps_fld pe_w pe_w hs) ?_
  refine h F t H _ re rs fun F1 y uy H1 S1 p1 k1 rs1 r1 h1 => ?_
  refine h1 F1 t H1 _ (re.mono p1 k1) rs1 fun F2 d u H2 S2 p2 k2 rs2 r2 h2 => ?_
  obtain ⟨l, fs, rfl, hl', hf, z⟩ := h2
  obtain ⟨a, rfl, ha⟩ := r2
  obtain ⟨a', h', e1, e2, dx, vs, e3, e4⟩ := rs2.get hl'
  rw [e1] at ha; cases ha
  subst e3
  refine ⟨a, C, dx, vs, rfl, e2, c, na, by rw [e4.length]; exact hf, ?_⟩
  have kk : Keep H2 (upd H2 a (.ins C dx (L2.putF f uy vs))) := Keep.upd e2 trivial
  exact q.nx F2 v t _ _ ((p.trans p1).trans p2) (((k.trans k1).trans k2).trans kk) (((re.mono p1 k1).mono p2 k2).mono (List.prefix_refl F2) kk) (rs2.set (o := .ins C (putD f y fs)) e1 e2 trivial ⟨dx, _, rfl, RKs.putF (RD.mono p2 k2 _ _ r1) e4⟩) z
end stm

/-! ### calls -/
abbrev SpD := List D → Store → (D → Store → Prop) → Prop
def spD (K : PySem.W.Frag) (sp : SpD) : Sp := fun vs H Q _ => ∃ F ds S Qd, RS F H S ∧ RDs F H ds vs ∧ sp ds S Qd ∧ Post F H Qd Q
section calls
variable {X : Cx} {n k : Nat} {f C : Addr} {fd : FuncData} {ps : List Str} {sp : SpD} {x m : Str} {a o : Expr} {es : List Expr} {v : Fv} {S : Store} {Q : D → Store → Prop} {p pos apos : Pos}
theorem WE.call (G : FnOk X.prog X.w X.K X.mg X.base CX0 k f fd ps (spD X.K sp)) (hr : Room k X.A) (hm : X.mg x = some (.ref f)) (hk : PySem.W.keepIn X.K (.ref f) = true) (hb : Binds X.K fd ps []) (h : WA X (a :: es) v S fun ds S1 => sp ds S1 Q) (hg : Gl X x := by rfl)
    (hdb : (x == ("__debug__" : Str)) = false := by decide) (he : starEach (a :: es) X.env = (false, eval a X.env) :: starEach es X.env := by rfl) (hpl : (backTo pos (starEach es X.env)).any (·.1) = false := by rfl) : WE X (.Call (.Name x p) (a :: es) [] pos) v S Q := fun F t H Q' re rs k => by
  refine wE_of (pe_call (E := E0) G hr hg hm hk hb .nil pass0 pa_w hdb he hpl) ?_
  refine h F t H _ re rs fun F1 ds vs H1 S1 p1 k1 rs1 r1 h1 => ?_
  rw [List.append_nil]
  exact ⟨F1, ds, S1, Q, rs1, r1, h1, k.mono p1 k1⟩
theorem WE.call0 (G : FnOk X.prog X.w X.K X.mg X.base CX0 k f fd ps (spD X.K sp)) (hr : Room k X.A) (hm : X.mg x = some (.ref f)) (hk : PySem.W.keepIn X.K (.ref f) = true) (hb : Binds X.K fd ps []) (h : sp [] S Q) (hg : Gl X x := by rfl)
    (hdb : (x == ("__debug__" : Str)) = false := by decide) : WE X (.Call (.Name x p) [] [] pos) v S Q := fun F t H Q' re rs k => by
  refine wE_of (pe_call0 (E := E0) G hr hg hm hk hb .nil pass0 hdb) ?_
  exact ⟨F, [], S, Q, rs, rfl, h, k⟩
theorem WE.meth {pl : Sem Bool} (G : FnOk X.prog X.w X.K X.mg X.base CX0 k f fd ps (spD X.K sp)) (hr : Room k X.A) (c : Cls X.K C) (hm : Meth X.K C m f) (hb : Binds X.K fd ps [])
    (h : WE X o v S fun d S1 => ∃ l fs, d = .loc l ∧ S1[l]? = some (.ins C fs) ∧ fs.lookup m = none ∧ WA X (a :: es) v S1 fun ds S2 => sp (.loc l :: ds) S2 Q)
    (hst : starEach (a :: es) X.env = (false, eval a X.env) :: starEach es X.env := by rfl) (hpl : (backTo pos (starEach es X.env)).any (·.1) = false := by rfl)
    (ht : eval (.Call (.Attribute o m apos) (a :: es) [] pos) X.env = (do
      let ov ← eval o X.env
      standAt apos.atName
      let (f, first) ← holding [ov] (getMethod ov m pl)
      callWith pos f first (backTo pos (starEach (a :: es) X.env)) (backToKw pos (keywordEach [] X.env))) := by rfl) : WE X (.Call (.Attribute o m apos) (a :: es) [] pos) v S Q := fun F t H Q' re rs k => by
  refine wE_of (pe_meth (E := E0) (pl := pl) pe_w c hm G hr hb .nil pass0 pa_w hst hpl ht) ?_
  refine h F t H _ re rs fun F1 d u H1 S1 p1 k1 rs1 r1 h1 => ?_
  obtain ⟨l, fs, rfl, hl, hf, h1⟩ := h1
  obtain ⟨a, rfl, ha⟩ := r1
  obtain ⟨a', h', e1, e2, dx, vs, e3, e4⟩ := rs1.get hl
  rw [e1] at ha; cases ha
  subst e3
  refine ⟨a, dx, vs, rfl, e2, e4.lookup.1 hf, ?_⟩
  refine h1 F1 t H1 _ (re.mono p1 k1) rs1 fun F2 ds ws H2 S2 p2 k2 rs2 r2 h2 => ?_
  rw [List.append_nil]
  exact ⟨F2, .loc l :: ds, S2, Q, rs2, ⟨.ref a, ws, rfl, ⟨a, rfl, pre_get p2 e1⟩, r2⟩, h2, (k.mono p1 k1).mono p2 k2⟩
theorem WE.meth0 {pl : Sem Bool} (G : FnOk X.prog X.w X.K X.mg X.base CX0 k f fd ps (spD X.K sp)) (hr : Room k X.A) (c : Cls X.K C) (hm : Meth X.K C m f) (hb : Binds X.K fd ps [])
    (h : WE X o v S fun d S1 => ∃ l fs, d = .loc l ∧ S1[l]? = some (.ins C fs) ∧ fs.lookup m = none ∧ sp [.loc l] S1 Q)
    (ht : eval (.Call (.Attribute o m apos) [] [] pos) X.env = (do
      let ov ← eval o X.env
      standAt apos.atName
      let (f, first) ← holding [ov] (getMethod ov m pl)
      callWith pos f first (backTo pos (starEach [] X.env)) (backToKw pos (keywordEach [] X.env))) := by rfl) : WE X (.Call (.Attribute o m apos) [] [] pos) v S Q := fun F t H Q' re rs k => by
  refine wE_of (pe_meth0 (E := E0) (pl := pl) pe_w c hm G hr hb .nil pass0 ht) ?_
  refine h F t H _ re rs fun F1 d u H1 S1 p1 k1 rs1 r1 h1 => ?_
  obtain ⟨l, fs, rfl, hl, hf, h1⟩ := h1
  obtain ⟨a, rfl, ha⟩ := r1
  obtain ⟨a', h', e1, e2, dx, vs, e3, e4⟩ := rs1.get hl
  rw [e1] at ha; cases ha
  subst e3
  refine ⟨a, dx, vs, rfl, e2, e4.lookup.1 hf, ?_⟩
  show spD X.K sp ([V.ref a] ++ []) H1 Q' E0
  exact ⟨F1, [.loc l], S1, Q, rs1, ⟨.ref a, [], rfl, ⟨a, rfl, e1⟩, rfl⟩, h1, k.mono p1 k1⟩
/-- C(..) -/
theorem made_rs {F : List Addr} {H : Hp} {x dx : Addr} (rs : RS F H S) (hx : H x = none) (hdx : H dx = none) (ne : dx ≠ x) :
    Keep H (upd (upd H dx (.own x)) x (.ins C dx [])) ∧ RS (F ++ [x]) (upd (upd H dx (.own x)) x (.ins C dx [])) (S ++ [.ins C []]) := by
  have k1 : Keep H (upd H dx (.own x)) := Keep.new hdx
  have hx' : (upd H dx (.own x)) x = none := by rw [upd_ne (Ne.symm ne)]; exact hx
  exact ⟨k1.trans (Keep.new hx'), (rs.other hdx).new (o := .ins C []) hx' ⟨dx, [], rfl, rfl⟩⟩
theorem WE.make (M : Mk X.K C f) (G : FnOk X.prog X.w X.K X.mg X.base CX0 k f fd ps (spD X.K sp)) (hr : Room (k + 1) X.A) (hm : X.mg x = some (.ref C)) (hb : Binds X.K fd ps [])
    (h : WA X (a :: es) v S fun ds S1 => sp (.loc S1.length :: ds) (S1 ++ [.ins C []]) fun d S2 => d = .non ∧ Q (.loc S1.length) S2) (hg : Gl X x := by rfl)
    (hdb : (x == ("__debug__" : Str)) = false := by decide) (he : starEach (a :: es) X.env = (false, eval a X.env) :: starEach es X.env := by rfl) (hpl : (backTo pos (starEach es X.env)).any (·.1) = false := by rfl) : WE X (.Call (.Name x p) (a :: es) [] pos) v S Q := fun F t H Q' re rs k => by
  refine wE_of (pe_make (E := E0) M G hr hg hm hb .nil pass0 pa_w hdb he hpl) ?_
  refine h F t H _ re rs fun F1 ds vs H1 S1 p1 k1 rs1 r1 h1 => ?_
  intro x dx hx hdx ne
  obtain ⟨kk, rs2⟩ := made_rs (C := C) rs1 hx hdx ne
  rw [List.append_nil]
  have pp : F1 <+: F1 ++ [x] := ⟨[x], rfl⟩
  have hlx : (F1 ++ [x])[S1.length]? = some x := by rw [← rs1.len]; simp
  refine ⟨F1 ++ [x], .loc S1.length :: ds, _, _, rs2, ⟨.ref x, vs, rfl, ⟨x, rfl, hlx⟩, RDs.mono pp kk _ _ r1⟩, h1, ?_⟩
  intro F3 d u H3 S3 p3 k3 rs3 r3 q
  obtain ⟨rfl, q⟩ := q
  exact ⟨r3, k F3 (.loc S1.length) (.ref x) H3 S3 ((p1.trans pp).trans p3) ((k1.trans kk).trans k3) rs3 ⟨x, rfl, pre_get p3 hlx⟩ q⟩
theorem WE.make0 (M : Mk X.K C f) (G : FnOk X.prog X.w X.K X.mg X.base CX0 k f fd ps (spD X.K sp)) (hr : Room (k + 1) X.A) (hm : X.mg x = some (.ref C)) (hb : Binds X.K fd ps [])
    (h : sp [.loc S.length] (S ++ [.ins C []]) fun d S2 => d = .non ∧ Q (.loc S.length) S2) (hg : Gl X x := by rfl)
    (hdb : (x == ("__debug__" : Str)) = false := by decide) : WE X (.Call (.Name x p) [] [] pos) v S Q := fun F t H Q' re rs k => by
  refine wE_of (pe_make0 (E := E0) M G hr hg hm hb .nil pass0 hdb) ?_
  intro x dx hx hdx ne
  obtain ⟨kk, rs2⟩ := made_rs (C := C) rs hx hdx ne
  have pp : F <+: F ++ [x] := ⟨[x], rfl⟩
  have hlx : (F ++ [x])[S.length]? = some x := by rw [← rs.len]; simp
  show spD X.K sp ([V.ref x] ++ []) _ _ E0
  refine ⟨F ++ [x], [.loc S.length], _, _, rs2, ⟨.ref x, [], rfl, ⟨x, rfl, hlx⟩, rfl⟩, h, ?_⟩
  intro F3 d u H3 S3 p3 k3 rs3 r3 q
  obtain ⟨rfl, q⟩ := q
  exact ⟨r3, k F3 (.loc S.length) (.ref x) H3 S3 (pp.trans p3) (kk.trans k3) rs3 ⟨x, rfl, pre_get p3 hlx⟩ q⟩
/-- a builtin by its name -/
theorem WE.callB {id : String} (h : WA X (a :: es) v S fun ds S1 => CW X (.builtin id) ds S1 Q) (hm : X.mg x = none) (hv : bootBuiltins x = some (.builtin id)) (hg : Gl X x := by rfl) (hn : x ≠ "__name__" := by decide) (hdb : (x == ("__debug__" : Str)) = false := by decide)
    (he : starEach (a :: es) X.env = (false, eval a X.env) :: starEach es X.env := by rfl) (hpl : (backTo pos (starEach es X.env)).any (·.1) = false := by rfl) : WE X (.Call (.Name x p) (a :: es) [] pos) v S Q := fun F t H Q' re rs k => by
  refine wE_of (pe_callB call_w hg hm hv pa_w hn hdb he hpl) ?_
  exact h F t H _ re rs fun F1 ds vs H1 S1 p1 k1 rs1 r1 h1 => h1 F1 H1 vs Q' rs1 r1 (k.mono p1 k1)
theorem WE.callT {T : String} (h : WA X (a :: es) v S fun ds S1 => CW X (.type T) ds S1 Q) (hm : X.mg x = none) (hv : bootBuiltins x = some (.type T)) (hg : Gl X x := by rfl) (hn : x ≠ "__name__" := by decide) (hdb : (x == ("__debug__" : Str)) = false := by decide)
    (he : starEach (a :: es) X.env = (false, eval a X.env) :: starEach es X.env := by rfl) (hpl : (backTo pos (starEach es X.env)).any (·.1) = false := by rfl) : WE X (.Call (.Name x p) (a :: es) [] pos) v S Q := fun F t H Q' re rs k => by
  refine wE_of (pe_callTy call_w hg hm hv pa_w hn hdb he hpl) ?_
  exact h F t H _ re rs fun F1 ds vs H1 S1 p1 k1 rs1 r1 h1 => h1 F1 H1 vs Q' rs1 r1 (k.mono p1 k1)
/-- a builtin type's method -/
def tyD (T : String) (d : D) (S : Store) : Prop := match d with
  | .str _ => T = "str"
  | .loc l => (T = "list" ∧ ∃ xs, S[l]? = some (.lst xs)) ∨ (T = "dict" ∧ ((∃ kvs, S[l]? = some (.dK kvs)) ∨ ∃ kvs, S[l]? = some (.dT kvs)))
  | _ => False
theorem tyD_v {K : PySem.W.Frag} {F : List Addr} {H : Hp} {T : String} {d : D} {u : V} (rs : RS F H S) (r : RD F H d u) (h : tyD T d S) : tyV K T u H := by
  cases d with
  | str y => cases (show u = .str y from r); exact h
  | loc l =>
    obtain ⟨a, rfl, ha⟩ := r
    rcases h with ⟨rfl, xs, hl⟩ | ⟨rfl, ⟨kvs, hl⟩ | ⟨kvs, hl⟩⟩
    · obtain ⟨a', h', e1, e2, vs, e3, e4⟩ := rs.get hl
      rw [e1] at ha; cases ha; subst e3
      exact Or.inl ⟨rfl, _, SqL.of e2⟩
    · obtain ⟨a', h', e1, e2, vs, e3, e4⟩ := rs.get hl
      rw [e1] at ha; cases ha; subst e3
      exact Or.inr (Or.inr (Or.inl ⟨rfl, Or.inl ⟨_, e2⟩⟩))
    · obtain ⟨a', h', e1, e2, vs, e3, e4⟩ := rs.get hl
      rw [e1] at ha; cases ha; subst e3
      exact Or.inr (Or.inr (Or.inl ⟨rfl, Or.inr ⟨_, e2⟩⟩))
  | _ => exact h.elim
theorem WE.bm0 {T id : String} (pa : PlainAttrs T) (slot : Slot T m id) (hty : typeOf (.builtin id) = pure (.type "method_descriptor")) (h : WE X o v S fun d S1 => tyD T d S1 ∧ MW X id d [] S1 Q)
    (hbase : attributeBase o m X.env (eval o X.env) = eval o X.env := by rfl) (hline : (apos.endLine == pos.line) = true := by rfl) : WE X (.Call (.Attribute o m apos) [] [] pos) v S Q := fun F t H Q' re rs k => by
  refine wE_of (pe_bm0 pa slot hty mt_w pe_w hbase hline) ?_
  exact h F t H _ re rs fun F1 d u H1 S1 p1 k1 rs1 r1 h1 => ⟨tyD_v rs1 r1 h1.1, h1.2 F1 H1 u [] Q' rs1 r1 rfl (k.mono p1 k1)⟩
theorem WE.bm {T id : String} (pa : PlainAttrs T) (slot : Slot T m id) (hty : typeOf (.builtin id) = pure (.type "method_descriptor")) (h : WE X o v S fun d S1 => tyD T d S1 ∧ WA X (a :: es) v S1 fun ds S2 => MW X id d ds S2 Q)
    (hbase : attributeBase o m X.env (eval o X.env) = eval o X.env := by rfl)
    (hfew : ((backTo pos (starEach (a :: es) X.env)).all (fun x => !x.1) && (backToKw pos (keywordEach [] X.env)).all (fun x => x.1.isSome)
      && decide ((a :: es).length + ([] : List Keyword).length + (if ([] : List Keyword).isEmpty then 0 else 1) < 30)) = true := by rfl)
    (hline : (apos.endLine == pos.line) = true := by rfl) (hs : starEach (a :: es) X.env = (false, eval a X.env) :: starEach es X.env := by rfl) (hplain : (backTo pos (starEach es X.env)).any (·.1) = false := by rfl) : WE X (.Call (.Attribute o m apos) (a :: es) [] pos) v S Q := fun F t H Q' re rs k => by
  refine wE_of (pe_bm pa slot hty mt_w pe_w pa_w hbase hfew hline hs hplain) ?_
  refine h F t H _ re rs fun F1 d u H1 S1 p1 k1 rs1 r1 h1 => ⟨tyD_v rs1 r1 h1.1, ?_⟩
  exact h1.2 F1 t H1 _ (re.mono p1 k1) rs1 fun F2 ds vs H2 S2 p2 k2 rs2 r2 h2 => h2 F2 H2 u vs Q' rs2 (r1.mono p2 k2) r2 ((k.mono p1 k1).mono p2 k2)
end calls

/-! ### a def by its body -/
def startD (N : List Str) (ds : List D) : Fv := ds.map some ++ List.replicate (N.length - ds.length) none
def fnEnds (n : Nat) (Q : D → Store → Prop) : Ed := { nx := fun _ S => WkD n .non S Q, rt := fun d S => WkD n d S Q }
theorem re_start {F : List Addr} {H : Hp} {N : List Str} {ds : List D} {vs : List V} (r : RDs F H ds vs) : RE F H (startD N ds) (L2.start N vs) := by
  refine ⟨by simp [startD, L2.start, r.length], fun i d h => ?_⟩
  unfold startD at h
  unfold L2.start
  by_cases hi : i < ds.length
  · rw [List.getElem?_append_left (by simpa using hi), List.getElem?_map] at h
    cases e : ds[i]? with
    | none => rw [e] at h; cases h
    | some x =>
      rw [e] at h
      cases h
      obtain ⟨u, h1, h2⟩ := r.get e
      refine ⟨u, ?_, h2⟩
      rw [List.getElem?_append_left (by rw [List.length_map, r.length]; exact hi), List.getElem?_map, h1]
      rfl
  · rw [List.getElem?_append_right (by simpa using hi), List.getElem?_replicate] at h
    split at h <;> cases h
section defs
variable {P : Program} {w : World} {K : PySem.W.Frag} {mg : Str → Option Value} {base : Heap}
theorem post_fn {F : List Addr} {H : Hp} {Q : D → Store → Prop} {Q' : VK} (k : Post F H Q Q') : PostS F H (fnEnds F.length Q) { nx := fun _ H' => Q' .non H', rt := Q' } := by
  have go : ∀ F' d u H' S', F <+: F' → Keep H H' → RS F' H' S' → RD F' H' d u → WkD F.length d S' Q → Q' u H' := fun F' d u H' S' p kk rs r h => by
    obtain ⟨d2, S2, c, q⟩ := h
    obtain ⟨F2, p2, r2, rs2⟩ := c F' H' u r rs
    rw [← pre_of_take rfl p] at p2
    exact k F2 d2 u H' S2 p2 kk rs2 r2 q
  exact ⟨fun F' e t H' S' p kk re rs h => go F' .non .non H' S' p kk rs rfl h, go, fun _ _ _ _ _ _ _ _ _ h => h.elim, fun _ _ _ _ _ _ _ _ _ h => h.elim⟩
theorem fnD {x qual : Str} {st : Stmt} {f : Addr} {fd : FuncData} {N ps : List Str} {k : Nat} {sp : SpD} (Fn : Fun K x qual st f fd) (Sc : FnScope N ps (defScope st)) (len : ∀ ds S Q, sp ds S Q → ds.length = ps.length)
    (body : ∀ (X : Cx) (ds : List D) (S : Store) (Q : D → Store → Prop), (∃ (cdv : Value) (A : Around) (outer : List Env) (s : Shared) (H : Hp) (E : XK), X = (cxOf CX0 P w K mg base N qual (defScope st) f cdv A outer s H E).nox) → Room k X.A → sp ds S Q → WSs X S.length (defBody st) (startD N ds) S (fnEnds S.length Q)) :
    FnOk P w K mg base CX0 (k + 1) f fd ps (spD K sp) := by
  refine Fn.ok Sc (fun vs H Q E h => ?_) (fun cdv A outer s H vs Q E hr h => ?_)
  · obtain ⟨F, ds, S, Qd, rs, r, hs, k⟩ := h
    rw [r.length]
    exact len ds S Qd hs
  · obtain ⟨F, ds, S, Qd, rs, r, hs, kp⟩ := h
    refine ⟨_, pss_w, ?_⟩
    have q := body _ ds S Qd ⟨cdv, A, outer, s, H, E, rfl⟩ hr hs
    have hp := post_fn kp
    rw [rs.len] at hp
    exact q F H F (L2.start N vs) H _ rs.len (List.prefix_refl F) (Keep.refl H) (re_start r) rs hp
end defs
end DM

namespace DM
open PySem PySem.Spec PyProof.Rows L2
/-! ### what is walked -/
/-- the items, and what must stand at each turn -/
structure Src where
  items : List D
  ok : Store → Prop
def wI (X : Cx) (tg it : Expr) : TI := fun t H R => ∀ pins s, Inv X pins t H s → wpAny (model X.prog X.w) X.A (eval it X.env) (fun v s1 => wpAny (model X.prog X.w) X.A (pyIter v) (PIE X pins t tg R) X.xe s1) X.xe s
theorem pi_w {X : Cx} {tg it : Expr} : PI X tg it (wI X tg it) := ⟨fun pins s t H R I h => h pins s I⟩
theorem wI_of {X : Cx} {tg it : Expr} {ti : TI} {t : L2.St} {H : Hp} {R : It → Hp → Prop} (p : PI X tg it ti) (h : ti t H R) : wI X tg it t H R := fun pins s I => p.run pins s t H R I h
def SrcOk (F : List Addr) (H : Hp) (J : It) (c : Src) : Prop := ∀ F2 H2 S2, F <+: F2 → Keep H H2 → RS F2 H2 S2 → c.ok S2 →
  (∀ i, i < c.items.length → J.go i H2 ∧ ∀ x H3, J.yld i H2 x H3 → Keep H2 H3 ∧ RS F2 H3 S2 ∧ ∃ d, c.items[i]? = some d ∧ RD F2 H3 d x) ∧ J.stop c.items.length H2
def WI (X : Cx) (tg it : Expr) (v : Fv) (S : Store) (R : Src → Store → Prop) : Prop := ∀ F t H (R' : It → Hp → Prop), RE F H v t → RS F H S →
  (∀ F' J H' S' c, F <+: F' → Keep H H' → RS F' H' S' → SrcOk F' H' J c → R c S' → R' J H') → wI X tg it t H R'
section iters
variable {X : Cx} {tg e a b : Expr} {v : Fv} {S : Store} {R : Src → Store → Prop} {p pos : Pos}
theorem WI.list (h : WE X e v S fun d S1 => ∃ l xs, d = .loc l ∧ S1[l]? = some (.lst xs) ∧ R ⟨xs, fun S2 => S2[l]? = some (.lst xs)⟩ S1) : WI X tg e v S R := fun F t H R' re rs k => by
  refine wI_of (pi_list pe_w) ?_
  refine h F t H _ re rs fun F1 d u H1 S1 p1 k1 rs1 r1 h1 => ?_
  obtain ⟨l, xs, rfl, hl, q⟩ := h1
  obtain ⟨a, rfl, ha⟩ := r1
  obtain ⟨a', h', e1, e2, vs, e3, e4⟩ := rs1.get hl
  rw [e1] at ha; cases ha
  subst e3
  refine ⟨a, rfl, ⟨vs, SqL.of e2⟩, k F1 (Itl X.K a) H1 S1 _ p1 k1 rs1 (fun F2 H2 S2 p2 _ rs2 ok => ?_) q⟩
  obtain ⟨a2, h2, g1, g2, ws, g3, g4⟩ := rs2.get (show S2[l]? = some (.lst xs) from ok)
  rw [pre_get p2 e1] at g1; cases g1
  subst g3
  refine ⟨fun i hi => ?_, ws, SqL.of g2, by rw [g4.length]; exact Nat.le_refl _⟩
  obtain ⟨x, q1, q2⟩ := g4.get (List.getElem?_eq_getElem hi)
  refine ⟨⟨ws, x, SqL.of g2, q1⟩, fun y H3 hy => ?_⟩
  obtain ⟨rfl, hy⟩ := hy
  have := hy ws (SqL.of g2)
  rw [q1] at this; cases this
  exact ⟨Keep.refl _, rs2, _, List.getElem?_eq_getElem hi, q2⟩
theorem WI.tup (h : WE X e v S fun d S1 => ∃ xs, d = .tup xs ∧ R ⟨xs, fun _ => True⟩ S1) : WI X tg e v S R := fun F t H R' re rs k => by
  refine wI_of (pi_tup pe_w) ?_
  refine h F t H _ re rs fun F1 d u H1 S1 p1 k1 rs1 r1 h1 => ?_
  obtain ⟨xs, rfl, q⟩ := h1
  obtain ⟨a, vs, rfl, sq, r⟩ := r1
  refine ⟨a, rfl, ⟨vs, SqT.of sq⟩, ?_⟩
  refine k F1 (Itt X.K a) H1 S1 ⟨xs, fun _ => True⟩ p1 k1 rs1 (fun F2 H2 S2 p2 k2 rs2 ok => ?_) q
  have r2 := RDs.mono p2 k2 _ _ r
  have sq2 : SqT X.K H2 a vs := SqT.of (k2.1 _ _ sq)
  refine ⟨fun i hi => ?_, vs, sq2, by rw [r2.length]; exact Nat.le_refl _⟩
  obtain ⟨x, q1, q2⟩ := r2.get (List.getElem?_eq_getElem hi)
  refine ⟨⟨vs, x, sq2, q1⟩, fun y H3 hy => ?_⟩
  obtain ⟨rfl, hy⟩ := hy
  have := hy vs sq2
  rw [q1] at this; cases this
  exact ⟨Keep.refl _, rs2, _, List.getElem?_eq_getElem hi, q2⟩
def rngD (lo : Int) (n : Nat) : List D := (List.range n).map fun (k : Nat) => .int (lo + (k : Int))
theorem rngD_get {lo : Int} {n i : Nat} {d : D} : (rngD lo n)[i]? = some d ↔ i < n ∧ d = .int (lo + (i : Int)) := by
  unfold rngD
  rw [List.getElem?_map]
  by_cases h : i < n
  · rw [List.getElem?_range h]
    simp [h, eq_comm]
  · rw [List.getElem?_eq_none (by simpa using h)]
    simp [h]
theorem rngD_len {lo : Int} {n : Nat} : (rngD lo n).length = n := by simp [rngD]
theorem srcR {F : List Addr} {H : Hp} {lo : Int} {n : Nat} : SrcOk F H (Itr lo n) ⟨rngD lo n, fun _ => True⟩ := fun F2 H2 S2 p2 k2 rs2 _ => by
  refine ⟨fun i hi => ?_, Nat.le_of_eq rngD_len.symm⟩
  have hi : i < n := by rw [show (Src.items ⟨rngD lo n, fun _ => True⟩) = rngD lo n from rfl, rngD_len] at hi; exact hi
  refine ⟨hi, fun x H3 hy => ?_⟩
  obtain ⟨rfl, rfl⟩ := hy
  exact ⟨Keep.refl _, rs2, .int (lo + i), rngD_get.mpr ⟨hi, rfl⟩, rfl⟩
theorem WI.range1 (h : WA X [a] v S fun ds S1 => ∃ j : Int, ds = [.int j] ∧ -(2 ^ 62) ≤ j ∧ j < 2 ^ 62 ∧ R ⟨rngD 0 j.toNat, fun _ => True⟩ S1) (hm : X.mg "range" = none) (hg : Gl X "range" := by rfl) (hs : starEach [a] X.env = [(false, eval a X.env)] := by rfl) : WI X tg (.Call (.Name "range" p) [a] [] pos) v S R := fun F t H R' re rs k => by
  refine wI_of (pi_range1 hg hm pa_w hs) ?_
  refine h F t H _ re rs fun F1 ds vs H1 S1 p1 k1 rs1 r1 h1 => ?_
  obtain ⟨j, rfl, h2, h3, q⟩ := h1
  obtain ⟨u, r, rfl, e1, e2⟩ := r1
  cases e1
  cases (show r = [] from e2)
  exact ⟨j, rfl, h2, h3, k F1 _ H1 S1 _ p1 k1 rs1 srcR q⟩
theorem WI.range2 (h : WA X [a, b] v S fun ds S1 => ∃ i j : Int, ds = [.int i, .int j] ∧ (-(2 ^ 62) ≤ i ∧ i < 2 ^ 62 ∧ -(2 ^ 62) ≤ j ∧ j < 2 ^ 62) ∧ R ⟨rngD i (j - i).toNat, fun _ => True⟩ S1) (hm : X.mg "range" = none) (hg : Gl X "range" := by rfl)
    (hs : starEach [a, b] X.env = [(false, eval a X.env), (false, eval b X.env)] := by rfl) (hs2 : starEach [b] X.env = [(false, eval b X.env)] := by rfl) : WI X tg (.Call (.Name "range" p) [a, b] [] pos) v S R := fun F t H R' re rs k => by
  refine wI_of (pi_range2 hg hm pa_w hs hs2) ?_
  refine h F t H _ re rs fun F1 ds vs H1 S1 p1 k1 rs1 r1 h1 => ?_
  obtain ⟨i, j, rfl, h2, q⟩ := h1
  obtain ⟨u, r, rfl, e1, u2, r2, rfl, e2, e3⟩ := r1
  cases e1
  cases e2
  cases (show r2 = [] from e3)
  exact ⟨i, j, rfl, h2, k F1 _ H1 S1 _ p1 k1 rs1 srcR q⟩
/-- enumerate(list): new pairs -/
def enumD (xs : List D) : List D := (List.range xs.length).map fun (k : Nat) => .tup [.int (k : Int), xs.getD k .non]
theorem WI.enum {tpos : Pos} {elts : List Expr} {kk : Nat} (h : WA X [a] v S fun ds S1 => ∃ l xs, ds = [.loc l] ∧ S1[l]? = some (.lst xs) ∧ R ⟨enumD xs, fun S2 => S2[l]? = some (.lst xs)⟩ S1) (hm : X.mg "enumerate" = none) (hg : Gl X "enumerate" := by rfl) (hs : starEach [a] X.env = [(false, eval a X.env)] := by rfl) :
    WI X (.Tuple elts kk tpos) (.Call (.Name "enumerate" p) [a] [] pos) v S R := fun F t H R' re rs k => by
  refine wI_of (pi_enum hg hm pa_w hs) ?_
  refine h F t H _ re rs fun F1 ds vs H1 S1 p1 k1 rs1 r1 h1 => ?_
  obtain ⟨l, xs, rfl, hl, q⟩ := h1
  obtain ⟨u, r, rfl, ⟨a, rfl, ha⟩, e2⟩ := r1
  cases (show r = [] from e2)
  obtain ⟨a', h', e1, e2, vs, e3, e4⟩ := rs1.get hl
  rw [e1] at ha; cases ha
  subst e3
  refine ⟨a, vs, rfl, SqL.of e2, k F1 (Ite X.K a) H1 S1 ⟨enumD xs, _⟩ p1 k1 rs1 (fun F2 H2 S2 p2 _ rs2 ok => ?_) q⟩
  obtain ⟨a2, h2, g1, g2, ws, g3, g4⟩ := rs2.get (show S2[l]? = some (.lst xs) from ok)
  rw [pre_get p2 e1] at g1; cases g1
  subst g3
  have hlen : (enumD xs).length = xs.length := by simp [enumD]
  refine ⟨fun i hi => ?_, ws, SqL.of g2, by rw [g4.length]; exact Nat.le_of_eq hlen.symm⟩
  have hi : i < xs.length := by rw [← hlen]; exact hi
  obtain ⟨x, q1, q2⟩ := g4.get (List.getElem?_eq_getElem hi)
  refine ⟨⟨ws, x, SqL.of g2, q1⟩, fun y H3 hy => ?_⟩
  obtain ⟨T, x', rfl, hT, rfl, hy⟩ := hy
  have := hy ws (SqL.of g2)
  rw [q1] at this; cases this
  have kk : Keep H2 (upd H2 T (.tup [.int (i : Nat), x])) := Keep.new hT
  refine ⟨kk, rs2.other hT, .tup [.int (i : Int), xs[i]], ?_, T, [.int (i : Nat), x], rfl, upd_same, ⟨.int (i : Int), [x], rfl, rfl, x, [], rfl, q2.mono (List.prefix_refl _) kk, rfl⟩⟩
  show (enumD xs)[i]? = _
  unfold enumD
  rw [List.getElem?_map, List.getElem?_range hi]
  simp [List.getD, List.getElem?_eq_getElem hi]
/-- reversed(list) -/
theorem WI.rev (h : WE X a v S fun d S1 => ∃ l xs, d = .loc l ∧ S1[l]? = some (.lst xs) ∧ R ⟨xs.reverse, fun S2 => S2[l]? = some (.lst xs)⟩ S1) (hm : X.mg "reversed" = none) (hg : Gl X "reversed" := by rfl) (hs : starEach [a] X.env = [(false, eval a X.env)] := by rfl) :
    WI X tg (.Call (.Name "reversed" p) [a] [] pos) v S R := fun F t H R' re rs k => by
  refine wI_of (RT.pi_revA hg hm pe_w (by rw [hs]; rfl)) ?_
  refine h F t H _ re rs fun F1 d u H1 S1 p1 k1 rs1 r1 h1 => ?_
  obtain ⟨l, xs, rfl, hl, q⟩ := h1
  obtain ⟨a, rfl, ha⟩ := r1
  obtain ⟨a', h', e1, e2, vs, e3, e4⟩ := rs1.get hl
  rw [e1] at ha; cases ha
  subst e3
  refine ⟨a, vs, rfl, .inl ⟨SqL.of e2, k F1 (Itv X.K a vs.length) H1 S1 ⟨xs.reverse, _⟩ p1 k1 rs1 (fun F2 H2 S2 p2 _ rs2 ok => ?_) q⟩⟩
  obtain ⟨a2, h2, g1, g2, ws, g3, g4⟩ := rs2.get (show S2[l]? = some (.lst xs) from ok)
  rw [pre_get p2 e1] at g1; cases g1
  subst g3
  have hlen : ws.length = xs.length := g4.length
  have hlv : vs.length = xs.length := e4.length
  refine ⟨fun i hi => ?_, by show vs.length ≤ xs.reverse.length; rw [List.length_reverse, hlv]; exact Nat.le_refl _⟩
  have hi : i < xs.length := by rw [show (Src.items ⟨xs.reverse, fun S2 => S2[l]? = some (.lst xs)⟩) = xs.reverse from rfl, List.length_reverse] at hi; exact hi
  have hi2 : vs.length - 1 - i < xs.length := by omega
  obtain ⟨x, q1, q2⟩ := g4.get (List.getElem?_eq_getElem hi2)
  refine ⟨⟨by omega, ws, x, SqL.of g2, q1⟩, fun y H3 hy => ?_⟩
  obtain ⟨rfl, hy⟩ := hy
  have := hy ws (SqL.of g2)
  rw [q1] at this; cases this
  refine ⟨Keep.refl _, rs2, _, ?_, q2⟩
  show xs.reverse[i]? = _
  rw [List.getElem?_reverse hi, List.getElem?_eq_getElem (by omega)]
  simp only [hlv]
end iters

/-! ### for, while -/
section loops
variable {X : Cx} {n : Nat} {tg it c : Expr} {body : List Stmt} {v : Fv} {S : Store} {E : Ed} {pos : Pos}
/-- I i: what holds ahead of turn i. The places that are there at the loop's start stay where they are -/
theorem WS.for (h : WI X tg it v S fun c S1 => ∃ I : Nat → Fv → Store → Prop, I 0 v S1 ∧ (∀ i v2 S2, i ≤ c.items.length → I i v2 S2 → c.ok S2) ∧
      (∀ i d v2 S2, c.items[i]? = some d → I i v2 S2 → WG X tg d v2 S2 fun v3 S3 => WSs X S1.length body v3 S3 { nx := fun v4 S4 => WkE S1.length v4 S4 (I (i + 1)), ct := fun v4 S4 => WkE S1.length v4 S4 (I (i + 1)), bk := E.nx, rt := E.rt }) ∧
      (∀ v2 S2, I c.items.length v2 S2 → E.nx v2 S2)) (hp : PassesOwn (model X.prog X.w) X.A X.env X.xe) (hc : X.calm = true) (hs : ∀ x, foldedSetIterable it X.env x = pure x := by intro _; rfl) : WS X n (.For tg it body [] pos) v S E := fun F0 H0 F t H E' hl p k re rs q => by
  refine wS_of (ps_for hp hc pi_w pg_w pss_w hs) ?_
  refine h F t H _ re rs fun F1 J H1 S1 c p1 k1 rs1 sk h1 => ?_
  obtain ⟨I, i0, iok, turn, done⟩ := h1
  have l1 : F1.length = S1.length := rs1.len
  refine ⟨fun i m t2 H2 => m + i = c.items.length ∧ ∃ F2 v2 S2, F1 <+: F2 ∧ Keep H1 H2 ∧ RE F2 H2 v2 t2 ∧ RS F2 H2 S2 ∧ I i v2 S2, ⟨c.items.length, by omega, F1, v, S1, List.prefix_refl _, Keep.refl _, re.mono p1 k1, rs1, i0⟩, ?_⟩
  rintro i m t2 H2 ⟨hm, F2, v2, S2, p2, k2, re2, rs2, i2⟩
  obtain ⟨goes, stops⟩ := sk F2 H2 S2 p2 k2 rs2 (iok i v2 S2 (by omega) i2)
  by_cases hi : i < c.items.length
  · obtain ⟨go, yld⟩ := goes i hi
    refine .inr ⟨go, fun t' H' => ∃ F2 v2 S2, F1 <+: F2 ∧ Keep H1 H' ∧ RE F2 H' v2 t' ∧ RS F2 H' S2 ∧ I (i + 1) v2 S2, fun t' H' z => ⟨m - 1, by omega, by omega, z⟩, fun x H3 hy => ?_⟩
    obtain ⟨k3, rs3, d, hd, r3⟩ := yld x H3 hy
    refine turn i d v2 S2 hd i2 F2 t2 H3 x _ (re2.mono (List.prefix_refl _) k3) rs3 r3 fun F4 v4 t4 H4 S4 p4 k4 re4 rs4 h4 => ?_
    have step : ∀ F5 v5 t5 H5 S5, F1 <+: F5 → Keep H1 H5 → RE F5 H5 v5 t5 → RS F5 H5 S5 → WkE S1.length v5 S5 (I (i + 1)) → ∃ F2 v2 S2, F1 <+: F2 ∧ Keep H1 H5 ∧ RE F2 H5 v2 t5 ∧ RS F2 H5 S2 ∧ I (i + 1) v2 S2 := fun F5 v5 t5 H5 S5 p5 k5 re5 rs5 h5 => by
      obtain ⟨v6, S6, cv, i6⟩ := h5
      obtain ⟨F6, p6, re6, rs6⟩ := cv F5 H5 t5 re5 rs5
      rw [← pre_of_take l1 p5] at p6
      exact ⟨F6, v6, S6, p6, k5, re6, rs6, i6⟩
    refine h4 F1 H1 F4 t4 H4 _ l1 (p2.trans p4) ((k2.trans k3).trans k4) re4 rs4 ⟨fun F5 v5 t5 H5 S5 p5 k5 re5 rs5 h5 => step F5 v5 t5 H5 S5 p5 k5 re5 rs5 h5, q.rt.mono (p.trans p1) (k.trans k1), q.nx.mono (p.trans p1) (k.trans k1), fun F5 v5 t5 H5 S5 p5 k5 re5 rs5 h5 => step F5 v5 t5 H5 S5 p5 k5 re5 rs5 h5⟩
  · have e : i = c.items.length := by omega
    subst e
    exact .inl ⟨stops, q.nx F2 v2 t2 H2 S2 ((p.trans p1).trans p2) ((k.trans k1).trans k2) re2 rs2 (done v2 S2 i2)⟩
/-- I m: what holds ahead of a turn; m falls -/
theorem WS.while (I : Nat → Fv → Store → Prop) (h0 : ∃ m, I m v S) (turn : ∀ m v2 S2, I m v2 S2 → WT X c v2 S2 fun b S3 => (b = true → WSs X S.length body v2 S3 { nx := fun v4 S4 => WkE S.length v4 S4 fun v5 S5 => ∃ m', m' < m ∧ I m' v5 S5, ct := fun v4 S4 => WkE S.length v4 S4 fun v5 S5 => ∃ m', m' < m ∧ I m' v5 S5, bk := E.nx, rt := E.rt }) ∧ (b = false → E.nx v2 S3))
    (hp : PassesOwn (model X.prog X.w) X.A X.env X.xe) : WS X n (.While c body [] pos) v S E := fun F0 H0 F t H E' hl p k re rs q => by
  refine wS_of (ps_while hp pt_w pss_w) ?_
  have l1 : F.length = S.length := rs.len
  refine ⟨fun m t2 H2 => ∃ F2 v2 S2, F <+: F2 ∧ Keep H H2 ∧ RE F2 H2 v2 t2 ∧ RS F2 H2 S2 ∧ I m v2 S2, ?_, ?_⟩
  · obtain ⟨m, i0⟩ := h0
    exact ⟨m, F, v, S, List.prefix_refl _, Keep.refl _, re, rs, i0⟩
  · rintro m t2 H2 ⟨F2, v2, S2, p2, k2, re2, rs2, i2⟩
    refine turn m v2 S2 i2 F2 t2 H2 _ re2 rs2 fun F3 b H3 S3 p3 k3 rs3 h3 => ?_
    cases b with
    | false => exact iteF (q.nx F3 v2 t2 H3 S3 ((p.trans p2).trans p3) ((k.trans k2).trans k3) (re2.mono p3 k3) rs3 (h3.2 rfl))
    | true =>
      refine iteT ⟨fun t' H' => ∃ m', m' < m ∧ ∃ F2 v2 S2, F <+: F2 ∧ Keep H H' ∧ RE F2 H' v2 t' ∧ RS F2 H' S2 ∧ I m' v2 S2, fun t' H' z => z, ?_⟩
      have step : ∀ F5 v5 t5 H5 S5, F <+: F5 → Keep H H5 → RE F5 H5 v5 t5 → RS F5 H5 S5 → (WkE S.length v5 S5 fun v5 S5 => ∃ m', m' < m ∧ I m' v5 S5) → ∃ m', m' < m ∧ ∃ F2 v2 S2, F <+: F2 ∧ Keep H H5 ∧ RE F2 H5 v2 t5 ∧ RS F2 H5 S2 ∧ I m' v2 S2 := fun F5 v5 t5 H5 S5 p5 k5 re5 rs5 h5 => by
        obtain ⟨v6, S6, cv, m', hm', i6⟩ := h5
        obtain ⟨F6, p6, re6, rs6⟩ := cv F5 H5 t5 re5 rs5
        rw [← pre_of_take l1 p5] at p6
        exact ⟨m', hm', F6, v6, S6, p6, k5, re6, rs6, i6⟩
      exact h3.1 rfl F H F3 t2 H3 _ l1 (p2.trans p3) (k2.trans k3) (re2.mono p3 k3) rs3 ⟨fun F5 v5 t5 H5 S5 p5 k5 re5 rs5 h5 => step F5 v5 t5 H5 S5 p5 k5 re5 rs5 h5, q.rt.mono p k, q.nx.mono p k, fun F5 v5 t5 H5 S5 p5 k5 re5 rs5 h5 => step F5 v5 t5 H5 S5 p5 k5 re5 rs5 h5⟩
end loops
end DM

namespace DM
open PySem PySem.Spec PyProof.Rows L2
/-! ### comprehensions -/
def wipeD (v : Fv) : List Nat → Fv
  | [] => v
  | i :: is => (wipeD v is).set i none
theorem re_wipe {F : List Addr} {H : Hp} {v : Fv} {t : L2.St} (re : RE F H v t) : ∀ is : List Nat, RE F H (wipeD v is) (wipe t is)
  | [] => re
  | i :: is => (re_wipe re is).drop
theorem wipe_get (t : L2.St) (j : Nat) : ∀ is : List Nat, j < t.length → (wipe t is)[j]? = if j ∈ is then some none else t[j]?
  | [], h => by simp [wipe]
  | i :: is, h => by
    have ih := wipe_get t j is h
    show ((wipe t is).set i none)[j]? = _
    by_cases hj : i = j
    · subst hj
      rw [List.getElem?_set_self (by rw [wipe_length]; exact h)]
      simp
    · rw [List.getElem?_set_ne hj, ih]
      have : ¬ j = i := fun z => hj z.symm
      simp [this]
theorem wipe_ext {t t2 : L2.St} {is : List Nat} (hl : t2.length = t.length) (h : ∀ j, j ∉ is → t2[j]? = t[j]?) : wipe t2 is = wipe t is := by
  apply List.ext_getElem?
  intro j
  by_cases hj : j < t.length
  · rw [wipe_get t2 j is (by omega), wipe_get t j is hj]
    by_cases hm : j ∈ is
    · simp [hm]
    · simp [hm, h j hm]
  · rw [List.getElem?_eq_none (by rw [wipe_length]; omega), List.getElem?_eq_none (by rw [wipe_length]; omega)]
theorem wipe_idem {t t2 : L2.St} {is : List Nat} (hl : t2.length = t.length) (h : ∀ j, j ∉ is → t2[j]? = (wipe t is)[j]?) : wipe t2 is = wipe t is := by
  refine wipe_ext hl fun j hj => ?_
  rw [h j hj]
  by_cases hl2 : j < t.length
  · rw [wipe_get t j is hl2]; simp [hj]
  · rw [List.getElem?_eq_none (by rw [wipe_length]; omega), List.getElem?_eq_none (by omega)]
/-- the block of a comprehension of X's -/
def BlkOf (X : Cx) (scope : Scope) (Y : Cx) : Prop := ∃ (s : Shared) (H : Hp) (C : Addr) (cl : List (Str × Addr)) (fp : List Addr), Y = X.blk s H scope (compEnvC scope cl C X.env) fp
def wTs (X : Cx) : List Expr → TT
  | [] => tYes
  | [c] => wT X c
  | _ => fun _ _ _ => False
theorem pts_w {X : Cx} : ∀ {ifs : List Expr}, PTs X ifs (wTs X ifs)
  | [] => pts_nil
  | [c] => pts_one pt_w
  | _ :: _ :: _ => ⟨fun _ _ _ _ _ _ h => h.elim⟩
def WTs (X : Cx) (ifs : List Expr) (v : Fv) (S : Store) (Q : Bool → Store → Prop) : Prop := match ifs with
  | [] => Q true S
  | [c] => WT X c v S Q
  | _ => False
theorem wTs_of {X : Cx} {v : Fv} {S : Store} {Q : Bool → Store → Prop} {F : List Addr} {t : L2.St} {H : Hp} {Q' : Bool → Hp → Prop} : ∀ {ifs : List Expr}, WTs X ifs v S Q → RE F H v t → RS F H S → PostT F H Q Q' → wTs X ifs t H Q'
  | [], h, re, rs, k => k F true H S (List.prefix_refl F) (Keep.refl H) rs h
  | [c], h, re, rs, k => h F t H Q' re rs k
  | _ :: _ :: _, h, _, _, _ => h.elim
theorem pre_len {α : Type} {l m : List α} (p : l <+: m) (h : m.length = l.length) : l = m := p.eq_of_length h.symm
section
variable {X : Cx} {tg it elt : Expr} {ifs : List Expr} {scope : Scope} {own : List (Str × Nat)} {v : Fv} {S : Store} {Q : D → Store → Prop} {pos : Pos}
theorem lc_core2 {g : TG} {up : D → Fv → Option Fv} (h : WI X tg it v S fun c S1 => ∃ I : Nat → List D → Store → Prop, I 0 [] S1 ∧
      (∀ i acc S2, i ≤ c.items.length → I i acc S2 → S2.length = S1.length ∧ c.ok (S2 ++ [.lst acc])) ∧
      (∀ i d acc S2, c.items[i]? = some d → I i acc S2 → ∃ v3, up d (wipeD v (own.map (·.2))) = some v3 ∧ ∀ Y, BlkOf X scope Y → WTs Y ifs v3 (S2 ++ [.lst acc]) fun b S3 =>
        (b = true → ∀ Z, BlkOf X scope Z → WE Z elt v3 S3 fun y S4 => WkD (S1.length + 1) y S4 fun y2 S5 => acc.length < sizeLine ∧ ∃ S6, S5 = S6 ++ [.lst acc] ∧ I (i + 1) (acc ++ [y2]) S6) ∧
        (b = false → ∃ S5, CovS (S1.length + 1) S3 S5 ∧ ∃ S6, S5 = S6 ++ [.lst acc] ∧ I (i + 1) acc S6)) ∧
      (∀ acc S2, I c.items.length acc S2 → Q (.loc S1.length) (S2 ++ [.lst acc])))
    (hup : ∀ F H d x v t Qt v3, RE F H v t → RD F H d x → up d v = some v3 → (∀ t3, RE F H v3 t3 → t3.length = t.length → (∀ j, j ∉ own.map (·.2) → t3[j]? = t[j]?) → Qt t3 H) → g x t H Qt)
    {F : List Addr} {t : L2.St} {H : Hp} {Q' : VK} (re : RE F H v t) (rs : RS F H S) (k : Post F H Q Q') :
    tLc (wI X tg it) g (fun t H Q => ∀ Y, BlkOf X scope Y → wTs Y ifs t H Q) (fun t H Q => ∀ Y, BlkOf X scope Y → wE Y elt t H Q) (own.map (·.2)) t H Q' := by
  refine h F t H _ re rs fun F1 J H1 S1 c p1 k1 rs1 sk h1 => ?_
  obtain ⟨I, i0, iok, turn, done⟩ := h1
  intro D hD
  have l1 : F1.length = S1.length := rs1.len
  have pp : F1 <+: F1 ++ [D] := ⟨[D], rfl⟩
  have rs1' : RS (F1 ++ [D]) (upd H1 D (.lst [])) (S1 ++ [.lst []]) := rs1.new (o := .lst []) hD ⟨[], rfl, rfl⟩
  have kD : Keep H1 (upd H1 D (.lst [])) := Keep.new hD
  refine ⟨fun i m H2 => m + i = c.items.length ∧ ∃ acc S2, Keep H1 H2 ∧ RS (F1 ++ [D]) H2 (S2 ++ [.lst acc]) ∧ I i acc S2, ⟨c.items.length, by omega, [], S1, kD, rs1', i0⟩, ?_⟩
  rintro i m H2 ⟨hm, acc, S2, k2, rs2, i2⟩
  obtain ⟨hlen, ok2⟩ := iok i acc S2 (by omega) i2
  obtain ⟨goes, stops⟩ := sk (F1 ++ [D]) H2 (S2 ++ [.lst acc]) pp k2 rs2 ok2
  by_cases hi : i < c.items.length
  · obtain ⟨go, yld⟩ := goes i hi
    refine .inr ⟨go, fun H' => ∃ acc S2, Keep H1 H' ∧ RS (F1 ++ [D]) H' (S2 ++ [.lst acc]) ∧ I (i + 1) acc S2, fun H' z => ⟨m - 1, by omega, by omega, z⟩, fun x H3 hy => ?_⟩
    obtain ⟨k3, rs3, d, hd, r3⟩ := yld x H3 hy
    obtain ⟨v3, hu, body⟩ := turn i d acc S2 hd i2
    have re3 : RE (F1 ++ [D]) H3 (wipeD v (own.map (·.2))) (wipe t (own.map (·.2))) := re_wipe (re.mono (p1.trans pp) (k1.trans (k2.trans k3))) _
    refine hup (F1 ++ [D]) H3 d x _ _ _ v3 re3 r3 hu fun t4 re4 hl4 ht4 => ⟨?_, fun Y hY => ?_⟩
    · exact wipe_idem (by rw [hl4, wipe_length]) ht4
    · have YK : Y.K = X.K := by obtain ⟨_, _, _, _, _, rfl⟩ := hY; rfl
      have bd := body Y hY
      refine wTs_of bd re4 rs3 fun F5 b H5 S5 p5 k5 rs5 h5 => ?_
      have l2 : (F1 ++ [D]).length = S1.length + 1 := by simp [l1]
      cases b with
      | true =>
        refine iteT fun Z hZ => ?_
        refine h5.1 rfl Z hZ F5 t4 H5 _ (re4.mono p5 k5) rs5 fun F6 y vy H6 S6 p6 k6 rs6 r6 h6 => ?_
        obtain ⟨y2, S7, cv, hsz, S8, rfl, i8⟩ := h6
        obtain ⟨F7, p7, r7, rs7⟩ := cv F6 H6 vy r6 rs6
        rw [← pre_of_take l2 (p5.trans p6)] at p7
        have hS8 := (iok (i + 1) (acc ++ [y2]) S8 (by omega) i8).1
        have hF7 : F7 = F1 ++ [D] := (pre_len p7 (by rw [rs7.len]; simp [l1, hS8])).symm
        subst hF7
        obtain ⟨a, u, e1, e2, vs, e3, e4⟩ := rs7.get (l := S1.length) (o := .lst acc) (by rw [← hS8]; simp)
        have ea : a = D := by
          rw [← l1] at e1
          simpa using e1.symm
        subst ea
        subst e3
        have kk : Keep H6 (upd H6 a (.lst (vs ++ [vy]))) := Keep.upd e2 trivial
        refine ⟨vs, e2, by rw [e4.length]; exact hsz, acc ++ [y2], S8, ((((k2.trans k3).trans k5).trans k6).trans kk), ?_, i8⟩
        have w := rs7.set (o := .lst (acc ++ [y2])) (u := .lst (vs ++ [vy])) e1 e2 trivial ⟨_, rfl, e4.append ⟨vy, [], rfl, r7, rfl⟩⟩
        have es : (S8 ++ [Ob.lst acc]).set S1.length (.lst (acc ++ [y2])) = S8 ++ [.lst (acc ++ [y2])] := by
          rw [← hS8, List.set_append_right _ _ (Nat.le_refl _)]
          simp
        rw [es] at w
        exact w
      | false =>
        refine iteF ?_
        obtain ⟨S5', cv, S6, rfl, i6⟩ := h5.2 rfl
        obtain ⟨F6, p6, rs6⟩ := cv F5 H5 rs5
        rw [← pre_of_take l2 p5] at p6
        have hS6 := (iok (i + 1) acc S6 (by omega) i6).1
        have hF6 : F6 = F1 ++ [D] := (pre_len p6 (by rw [rs6.len]; simp [l1, hS6])).symm
        subst hF6
        exact ⟨acc, S6, (k2.trans k3).trans k5, rs6, i6⟩
  · have e : i = c.items.length := by omega
    subst e
    refine .inl ⟨stops, k (F1 ++ [D]) (.loc S1.length) (.ref D) H2 _ (p1.trans pp) (k1.trans k2) rs2 ⟨D, rfl, by rw [← l1]; simp⟩ (done acc S2 i2)⟩
/-- the new list from the turns; an element's value may bear no new place -/
def LcTurns (X : Cx) (scope : Scope) (ifs : List Expr) (elt : Expr) (up : D → Fv → Option Fv) (vs : List Nat) (v : Fv) (n : Nat) (c : Src) (S1 : Store) (Q : D → Store → Prop) : Prop := ∃ I : Nat → List D → Store → Prop, I 0 [] S1 ∧
      (∀ i acc S2, i ≤ c.items.length → I i acc S2 → S2.length = S1.length ∧ c.ok (S2 ++ [.lst acc])) ∧
      (∀ i d acc S2, c.items[i]? = some d → I i acc S2 → ∃ v3, up d (wipeD v vs) = some v3 ∧ ∀ Y, BlkOf X scope Y → WTs Y ifs v3 (S2 ++ [.lst acc]) fun b S3 =>
        (b = true → ∀ Z, BlkOf X scope Z → WE Z elt v3 S3 fun y S4 => WkD (S1.length + 1) y S4 fun y2 S5 => acc.length < sizeLine ∧ ∃ S6, S5 = S6 ++ [.lst acc] ∧ I (i + 1) (acc ++ [y2]) S6) ∧
        (b = false → ∃ S5, CovS (S1.length + 1) S3 S5 ∧ ∃ S6, S5 = S6 ++ [.lst acc] ∧ I (i + 1) acc S6)) ∧
      (∀ acc S2, I c.items.length acc S2 → Q (.loc S1.length) (S2 ++ [.lst acc]))
def upN (i : Nat) (d : D) (v : Fv) : Option Fv := some (v.set i (some d))
def setsD (v : Fv) : List Nat → List D → Fv
  | i :: is, d :: ds => setsD (v.set i (some d)) is ds
  | _, _ => v
def upT (is : List Nat) (d : D) (v : Fv) : Option Fv := match d with
  | .tup ds => if ds.length = is.length then some (setsD v is ds) else none
  | _ => none
theorem upN_ok {i : Nat} {is : List Nat} (hi : i ∈ is) : ∀ F H d x v t Qt v3, RE F H v t → RD F H d x → upN i d v = some v3 → (∀ t3, RE F H v3 t3 → t3.length = t.length → (∀ j, j ∉ is → t3[j]? = t[j]?) → Qt t3 H) → gName i x t H Qt := by
  intro F H d x v t Qt v3 re r hu k
  cases hu
  exact k _ (re.set r) (by simp) fun j hj => by rw [List.getElem?_set_ne (by intro z; subst z; exact hj hi)]
def gNs : List Nat → TGs
  | [] => gNil
  | i :: is => gCons (gName i) (gNs is)
theorem gNs_ok {F : List Addr} {H : Hp} {ks : List Nat} : ∀ {is : List Nat} {ds : List D} {xs : List V} {v : Fv} {t : L2.St} {Qt : L2.St → Hp → Prop}, (∀ i ∈ is, i ∈ ks) → RE F H v t → RDs F H ds xs → ds.length = is.length →
    (∀ t3, RE F H (setsD v is ds) t3 → t3.length = t.length → (∀ j, j ∉ ks → t3[j]? = t[j]?) → Qt t3 H) → gNs is xs t H Qt
  | [], ds, xs, v, t, Qt, hk, re, r, hl, k => by
    have : ds = [] := by simpa using hl
    subst this
    cases (show xs = [] from r)
    exact ⟨rfl, k t re rfl fun _ _ => rfl⟩
  | i :: is, d :: ds, xs, v, t, Qt, hk, re, ⟨x, r, e, r1, r2⟩, hl, k => by
    subst e
    refine ⟨x, r, rfl, ?_⟩
    refine gNs_ok (ks := ks) (v := v.set i (some d)) (fun j hj => hk j (List.mem_cons_of_mem _ hj)) (re.set r1) r2 (by simpa using hl) fun t3 re3 hl3 h3 => k t3 re3 (by rw [hl3]; simp) fun j hj => ?_
    rw [h3 j hj, List.getElem?_set_ne (by intro z; subst z; exact hj (hk _ List.mem_cons_self))]
theorem upT_ok {K : PySem.W.Frag} {is ks : List Nat} (hi : ∀ i ∈ is, i ∈ ks) : ∀ F H d x v t Qt v3, RE F H v t → RD F H d x → upT is d v = some v3 → (∀ t3, RE F H v3 t3 → t3.length = t.length → (∀ j, j ∉ ks → t3[j]? = t[j]?) → Qt t3 H) → gTup K is.length (gNs is) x t H Qt := by
  intro F H d x v t Qt v3 re r hu k
  cases d with
  | tup ds =>
    unfold upT at hu
    by_cases hl : ds.length = is.length
    · simp only [hl, if_true] at hu
      cases hu
      obtain ⟨a, vs, rfl, sq, r⟩ := r
      exact ⟨a, vs, rfl, SqT.of sq, by rw [r.length, hl], gNs_ok hi re r hl k⟩
    · simp only [hl, if_false] at hu
      cases hu
  | _ => cases hu
theorem pgs_names {Y : Cx} (hN : Y.N.Nodup) : ∀ {es : List Expr} {is : List Nat}, (∀ (j : Nat) (e : Expr) (i : Nat), es[j]? = some e → is[j]? = some i → ∃ x p, e = Expr.Name x p ∧ Y.N[i]? = some x ∧ Loc Y.env.scope x ∧ (Y.fn x = true ∨ Y.env.scope.names.lookup x = some .local)) → es.length = is.length → PGs Y es (gNs is)
  | [], [], _, _ => pgs_nil
  | e :: es, i :: is, h, hl => by
    obtain ⟨x, p, rfl, h1, h2, h3⟩ := h 0 e i rfl rfl
    exact pgs_cons (pg_name hN h1 h2 h3) (pgs_names hN (fun j e i h4 h5 => h (j + 1) e i (by simpa using h4) (by simpa using h5)) (by simpa using hl)) rfl
/-- [elt for x in it ..], x in slot i -/
theorem WE.lcN (i : Nat) (own : List (Str × Nat)) {x : Str} {px : Pos} (h : WI X (.Name x px) it v S fun c S1 => LcTurns X scope ifs elt (upN i) (own.map (·.2)) v S.length c S1 Q) (hi : i ∈ own.map (·.2)) (hc : X.calm = true) (hN : X.N.Nodup) (ok : BlkOk X.N X.env.scope scope own)
    (hg : ∀ Y, BlkOf X scope Y → PG Y (.Name x px) (gName i)) (hs : ∀ x, foldedSetIterable it X.env x = pure x := by intro _; rfl) : WE X (.ListComp elt [⟨.Name x px, it, ifs, 0⟩] scope pos) v S Q := fun F t H Q' re rs k => by
  refine wE_of (pe_lc hc hN pi_w ok (fun s H C cl fp => hg _ ⟨s, H, C, cl, fp, rfl⟩) (tt := fun t H Q => ∀ Y, BlkOf X scope Y → wTs Y ifs t H Q) (fun s H C cl fp => ?_) (te := fun t H Q => ∀ Y, BlkOf X scope Y → wE Y elt t H Q) (fun s H C cl fp => ?_) hs) ?_
  · exact ⟨fun pins s2 t H2 Q I h => pts_w.run pins s2 t H2 Q I (h _ ⟨s, H, C, cl, fp, rfl⟩)⟩
  · exact ⟨fun pins s2 t H2 Q I h => pe_w.run pins s2 t H2 Q I (h _ ⟨s, H, C, cl, fp, rfl⟩)⟩
  · exact lc_core2 (up := upN i) h (upN_ok hi) re rs k
/-- y = [elt for x in it ..] -/
theorem WS.setLcN {n : Nat} {E : Ed} (i : Nat) (own : List (Str × Nat)) (j : Nat) {x y : Str} {px py spos : Pos} (h : WI X (.Name x px) it v S fun c S1 => LcTurns X scope ifs elt (upN i) (own.map (·.2)) v S.length c S1 fun d S2 => E.nx (v.set j (some d)) S2) (hi : i ∈ own.map (·.2)) (hc : X.calm = true) (hN : X.N.Nodup)
    (hy : X.N[j]? = some y) (hyl : X.env.scope.names.lookup y = some .local) (hsw : swapsWith (.ListComp elt [⟨.Name x px, it, ifs, 0⟩] scope pos) (some (.Name y py)) spos.line X.env = pure true) (ok : BlkOk X.N X.env.scope scope own)
    (hg : ∀ Y, BlkOf X scope Y → PG Y (.Name x px) (gName i)) (hs : ∀ x, foldedSetIterable it X.env x = pure x := by intro _; rfl) : WS X n (.Assign [.Name y py] (.ListComp elt [⟨.Name x px, it, ifs, 0⟩] scope pos) spos) v S E := fun F0 H0 F t H E' hl p k re rs q => by
  refine wS_of (ps_setLc hc hN hy hyl hsw pi_w ok (fun s H C cl fp => hg _ ⟨s, H, C, cl, fp, rfl⟩) (tt := fun t H Q => ∀ Y, BlkOf X scope Y → wTs Y ifs t H Q) (fun s H C cl fp => ?_) (te := fun t H Q => ∀ Y, BlkOf X scope Y → wE Y elt t H Q) (fun s H C cl fp => ?_) hs) ?_
  · exact ⟨fun pins s2 t H2 Q I h => pts_w.run pins s2 t H2 Q I (h _ ⟨s, H, C, cl, fp, rfl⟩)⟩
  · exact ⟨fun pins s2 t H2 Q I h => pe_w.run pins s2 t H2 Q I (h _ ⟨s, H, C, cl, fp, rfl⟩)⟩
  · exact lc_core2 (up := upN i) h (upN_ok hi) re rs fun F1 d u H1 S1 p1 k1 rs1 r1 h1 => q.nx F1 _ _ H1 S1 (p.trans p1) (k.trans k1) ((re.mono p1 k1).set r1) rs1 h1
/-- [elt for a, b, .. in it ..], the names in slots is -/
theorem WE.lcT (is : List Nat) (own : List (Str × Nat)) {es : List Expr} {kk : Nat} {px : Pos} (h : WI X (.Tuple es kk px) it v S fun c S1 => LcTurns X scope ifs elt (upT is) (own.map (·.2)) v S.length c S1 Q) (hi : ∀ i ∈ is, i ∈ own.map (·.2)) (hc : X.calm = true) (hN : X.N.Nodup) (ok : BlkOk X.N X.env.scope scope own)
    (hg : ∀ Y, BlkOf X scope Y → PG Y (.Tuple es kk px) (gTup Y.K is.length (gNs is))) (hs : ∀ x, foldedSetIterable it X.env x = pure x := by intro _; rfl) : WE X (.ListComp elt [⟨.Tuple es kk px, it, ifs, 0⟩] scope pos) v S Q := fun F t H Q' re rs k => by
  refine wE_of (pe_lc hc hN pi_w ok (g := gTup X.K is.length (gNs is)) (fun s H C cl fp => hg _ ⟨s, H, C, cl, fp, rfl⟩) (tt := fun t H Q => ∀ Y, BlkOf X scope Y → wTs Y ifs t H Q) (fun s H C cl fp => ?_) (te := fun t H Q => ∀ Y, BlkOf X scope Y → wE Y elt t H Q) (fun s H C cl fp => ?_) hs) ?_
  · exact ⟨fun pins s2 t H2 Q I h => pts_w.run pins s2 t H2 Q I (h _ ⟨s, H, C, cl, fp, rfl⟩)⟩
  · exact ⟨fun pins s2 t H2 Q I h => pe_w.run pins s2 t H2 Q I (h _ ⟨s, H, C, cl, fp, rfl⟩)⟩
  · exact lc_core2 (up := upT is) (g := gTup X.K is.length (gNs is)) h (upT_ok (K := X.K) hi) re rs k
theorem WS.setLcT {n : Nat} {E : Ed} (is : List Nat) (own : List (Str × Nat)) (j : Nat) {es : List Expr} {kk : Nat} {y : Str} {px py spos : Pos} (h : WI X (.Tuple es kk px) it v S fun c S1 => LcTurns X scope ifs elt (upT is) (own.map (·.2)) v S.length c S1 fun d S2 => E.nx (v.set j (some d)) S2) (hi : ∀ i ∈ is, i ∈ own.map (·.2)) (hc : X.calm = true) (hN : X.N.Nodup)
    (hy : X.N[j]? = some y) (hyl : X.env.scope.names.lookup y = some .local) (hsw : swapsWith (.ListComp elt [⟨.Tuple es kk px, it, ifs, 0⟩] scope pos) (some (.Name y py)) spos.line X.env = pure true) (ok : BlkOk X.N X.env.scope scope own)
    (hg : ∀ Y, BlkOf X scope Y → PG Y (.Tuple es kk px) (gTup Y.K is.length (gNs is))) (hs : ∀ x, foldedSetIterable it X.env x = pure x := by intro _; rfl) : WS X n (.Assign [.Name y py] (.ListComp elt [⟨.Tuple es kk px, it, ifs, 0⟩] scope pos) spos) v S E := fun F0 H0 F t H E' hl p k re rs q => by
  refine wS_of (ps_setLc hc hN hy hyl hsw pi_w ok (g := gTup X.K is.length (gNs is)) (fun s H C cl fp => hg _ ⟨s, H, C, cl, fp, rfl⟩) (tt := fun t H Q => ∀ Y, BlkOf X scope Y → wTs Y ifs t H Q) (fun s H C cl fp => ?_) (te := fun t H Q => ∀ Y, BlkOf X scope Y → wE Y elt t H Q) (fun s H C cl fp => ?_) hs) ?_
  · exact ⟨fun pins s2 t H2 Q I h => pts_w.run pins s2 t H2 Q I (h _ ⟨s, H, C, cl, fp, rfl⟩)⟩
  · exact ⟨fun pins s2 t H2 Q I h => pe_w.run pins s2 t H2 Q I (h _ ⟨s, H, C, cl, fp, rfl⟩)⟩
  · exact lc_core2 (up := upT is) (g := gTup X.K is.length (gNs is)) h (upT_ok (K := X.K) hi) re rs fun F1 d u H1 S1 p1 k1 rs1 r1 h1 => q.nx F1 _ _ H1 S1 (p.trans p1) (k.trans k1) ((re.mono p1 k1).set r1) rs1 h1
end
end DM

namespace DM
open PySem PySem.Spec PyProof.Rows L2
/-! ### operations by values -/
section ops
variable {X : Cx} {S : Store} {Q : D → Store → Prop}
theorem Post.now {F : List Addr} {H : Hp} {Q' : VK} {d : D} {u : V} (k : Post F H Q Q') (rs : RS F H S) (r : RD F H d u) (h : Q d S) : Q' u H := k F d u H S (List.prefix_refl F) (Keep.refl H) rs r h
theorem Post.nowI {F : List Addr} {H : Hp} {Q' : VK} {i : Int} (k : Post F H Q Q') (rs : RS F H S) (h : Q (.int i) S) : Q' (.int i) H := k F (.int i) (.int i) H S (List.prefix_refl F) (Keep.refl H) rs rfl h
theorem Post.nowB {F : List Addr} {H : Hp} {Q' : VK} {b : Bool} (k : Post F H Q Q') (rs : RS F H S) (h : Q (.bl b) S) : Q' (.bl b) H := k F (.bl b) (.bl b) H S (List.prefix_refl F) (Keep.refl H) rs rfl h
theorem Post.nowB' {F : List Addr} {H : Hp} {Q' : VK} {b c : Bool} (e : c = b) (k : Post F H Q Q') (rs : RS F H S) (h : Q (.bl b) S) : Q' (.bl c) H := by subst e; exact k.nowB rs h
theorem BW.of {f : Value → Value → Sem Value} {r : R2} {x y : D} (p : OpR X f r) (h : ∀ F H vx vy Q', RS F H S → RD F H x vx → RD F H y vy → Post F H Q Q' → r vx vy H Q') : BW X f x y S Q := fun F H vx vy Q' rs rx ry k => wB_of p (h F H vx vy Q' rs rx ry k)
theorem UW.of {f : Value → Sem Value} {r : V → Hp → VK → Prop} {x : D} (p : UnR X f r) (h : ∀ F H vx Q', RS F H S → RD F H x vx → Post F H Q Q' → r vx H Q') : UW X f x S Q := fun F H vx Q' rs rx k => wU_of p (h F H vx Q' rs rx k)
theorem IW.of {r : R2} {x y : D} (p : IxR X r) (h : ∀ F H vx vy Q', RS F H S → RD F H x vx → RD F H y vy → Post F H Q Q' → r vx vy H Q') : IW X x y S Q := fun F H vx vy Q' rs rx ry k => wIx_of p (h F H vx vy Q' rs rx ry k)
theorem CW.of {f : Value} {r : List V → Hp → VK → Prop} {ds : List D} (p : CallR X f r) (h : ∀ F H vs Q', RS F H S → RDs F H ds vs → Post F H Q Q' → r vs H Q') : CW X f ds S Q := fun F H vs Q' rs r k => wC_of p (h F H vs Q' rs r k)
theorem MW.of {id : String} {r : V → List V → Hp → VK → Prop} {x : D} {ds : List D} (p : MtM X id r) (h : ∀ F H vx vs Q', RS F H S → RD F H x vx → RDs F H ds vs → Post F H Q Q' → r vx vs H Q') : MW X id x ds S Q := fun F H vx vs Q' rs rx r k => wM_of p (h F H vx vs Q' rs rx r k)
theorem MW.ofR {id : String} {r : V → List V → Hp → VK → Prop} {x : D} {ds : List D} (p : MtR X id r) (h : ∀ F H vx vs Q', RS F H S → RD F H x vx → RDs F H ds vs → Post F H Q Q' → r vx vs H Q') : MW X id x ds S Q := fun F H vx vs Q' rs rx r k => wM_ofR p (h F H vx vs Q' rs rx r k)
variable {i j : Int}
theorem BW.add (h : Q (.int (i + j)) S) : BW X (binaryOp .Add) (.int i) (.int j) S Q := BW.of op_add fun F H vx vy Q' rs rx ry k => ⟨i, j, rx, ry, k.nowI rs h⟩
theorem BW.sub (h : Q (.int (i - j)) S) : BW X (binaryOp .Sub) (.int i) (.int j) S Q := BW.of op_sub fun F H vx vy Q' rs rx ry k => ⟨i, j, rx, ry, k.nowI rs h⟩
/-- one factor below 2^64 in size -/
theorem BW.mul (hc : CMul i j) (h : Q (.int (i * j)) S) : BW X (binaryOp .Mult) (.int i) (.int j) S Q := BW.of op_mul fun F H vx vy Q' rs rx ry k => ⟨i, j, rx, ry, hc, k.nowI rs h⟩
theorem BW.mod (hc : 0 < j) (h : Q (.int (i % j)) S) : BW X (binaryOp .Mod) (.int i) (.int j) S Q := BW.of op_mod fun F H vx vy Q' rs rx ry k => ⟨i, j, rx, ry, hc, k.nowI rs h⟩
theorem BW.fdiv (hc : CDiv i j) (h : Q (.int (i / j)) S) : BW X (binaryOp .FloorDiv) (.int i) (.int j) S Q := BW.of op_fdiv fun F H vx vy Q' rs rx ry k => ⟨i, j, rx, ry, hc, k.nowI rs h⟩
theorem BW.pow (hc : CPow i j) (h : Q (.int (i ^ j.toNat)) S) : BW X (binaryOp .Pow) (.int i) (.int j) S Q := BW.of op_pow fun F H vx vy Q' rs rx ry k => ⟨i, j, rx, ry, hc, k.nowI rs h⟩
theorem UW.neg (h : Q (.int (-i)) S) : UW X (unaryOp .USub) (.int i) S Q := UW.of un_neg fun F H vx Q' rs rx k => ⟨i, rx, k.nowI rs h⟩
theorem BW.lt (h : Q (.bl (decide (i < j))) S) : BW X (compareOp .Lt) (.int i) (.int j) S Q := BW.of op_lt fun F H vx vy Q' rs rx ry k => ⟨i, j, rx, ry, k.nowB rs h⟩
theorem BW.le (h : Q (.bl (decide (i ≤ j))) S) : BW X (compareOp .LtE) (.int i) (.int j) S Q := BW.of op_le fun F H vx vy Q' rs rx ry k => ⟨i, j, rx, ry, k.nowB rs h⟩
theorem BW.gt (h : Q (.bl (decide (j < i))) S) : BW X (compareOp .Gt) (.int i) (.int j) S Q := BW.of op_gt fun F H vx vy Q' rs rx ry k => ⟨i, j, rx, ry, k.nowB rs h⟩
theorem BW.ge (h : Q (.bl (decide (j ≤ i))) S) : BW X (compareOp .GtE) (.int i) (.int j) S Q := BW.of op_ge fun F H vx vy Q' rs rx ry k => ⟨i, j, rx, ry, k.nowB rs h⟩
theorem BW.eqI (h : Q (.bl (decide (i = j))) S) : BW X (compareOp .Eq) (.int i) (.int j) S Q := BW.of op_eq fun F H vx vy Q' rs rx ry k => by
  cases rx; cases ry
  exact ⟨rfl, k.nowB' (by simp) rs h⟩
theorem BW.neI (h : Q (.bl (!decide (i = j))) S) : BW X (compareOp .NotEq) (.int i) (.int j) S Q := BW.of op_ne fun F H vx vy Q' rs rx ry k => by
  cases rx; cases ry
  exact ⟨rfl, k.nowB' (by simp) rs h⟩
theorem BW.eqB {i j : Bool} (h : Q (.bl (decide (i = j))) S) : BW X (compareOp .Eq) (.bl i) (.bl j) S Q := BW.of op_eq fun F H vx vy Q' rs rx ry k => by
  cases rx; cases ry
  exact ⟨rfl, k.nowB' (by simp) rs h⟩
theorem BW.neB {i j : Bool} (h : Q (.bl (!decide (i = j))) S) : BW X (compareOp .NotEq) (.bl i) (.bl j) S Q := BW.of op_ne fun F H vx vy Q' rs rx ry k => by
  cases rx; cases ry
  exact ⟨rfl, k.nowB' (by simp) rs h⟩
theorem BW.eqS {i j : Str} (h : Q (.bl (decide (i = j))) S) : BW X (compareOp .Eq) (.str i) (.str j) S Q := BW.of op_eq fun F H vx vy Q' rs rx ry k => by
  cases rx; cases ry
  exact ⟨rfl, k.nowB' (by simp) rs h⟩
theorem BW.neS {i j : Str} (h : Q (.bl (!decide (i = j))) S) : BW X (compareOp .NotEq) (.str i) (.str j) S Q := BW.of op_ne fun F H vx vy Q' rs rx ry k => by
  cases rx; cases ry
  exact ⟨rfl, k.nowB' (by simp) rs h⟩
/-- None or an int, against the same -/
def D.ofO : Option Int → D
  | none => .non
  | some i => .int i
theorem BW.eqO {i j : Option Int} (h : Q (.bl (decide (i = j))) S) : BW X (compareOp .Eq) (D.ofO i) (D.ofO j) S Q := BW.of op_eq fun F H vx vy Q' rs rx ry k => by
  cases i with
  | none => cases j with
    | none => cases (show vx = .non from rx); cases (show vy = .non from ry); exact ⟨rfl, k.nowB' (by simp) rs h⟩
    | some j => cases (show vx = .non from rx); cases (show vy = .int j from ry); exact ⟨rfl, k.nowB' (by simp) rs h⟩
  | some i => cases j with
    | none => cases (show vx = .int i from rx); cases (show vy = .non from ry); exact ⟨rfl, k.nowB' (by simp) rs h⟩
    | some j => cases (show vx = .int i from rx); cases (show vy = .int j from ry); exact ⟨rfl, k.nowB' (by simp) rs h⟩
theorem BW.neO {i j : Option Int} (h : Q (.bl (!decide (i = j))) S) : BW X (compareOp .NotEq) (D.ofO i) (D.ofO j) S Q := BW.of op_ne fun F H vx vy Q' rs rx ry k => by
  cases i with
  | none => cases j with
    | none => cases (show vx = .non from rx); cases (show vy = .non from ry); exact ⟨rfl, k.nowB' (by simp) rs h⟩
    | some j => cases (show vx = .non from rx); cases (show vy = .int j from ry); exact ⟨rfl, k.nowB' (by simp) rs h⟩
  | some i => cases j with
    | none => cases (show vx = .int i from rx); cases (show vy = .non from ry); exact ⟨rfl, k.nowB' (by simp) rs h⟩
    | some j => cases (show vx = .int i from rx); cases (show vy = .int j from ry); exact ⟨rfl, k.nowB' (by simp) rs h⟩
/-- is None -/
theorem BW.isN {x : D} (b : Bool) (hb : (match x with | .non => true | _ => false) = b) (h : Q (.bl b) S) : BW X (compareOp .Is) x .non S Q := BW.of op_isN fun F H vx vy Q' rs rx ry k => by
  refine ⟨ry, k.now rs (d := .bl b) ?_ h⟩
  subst hb
  cases x with
  | non => cases (show vx = .non from rx); rfl
  | tup xs => obtain ⟨a, vs, rfl, _⟩ := rx; rfl
  | loc l => obtain ⟨a, rfl, _⟩ := rx; rfl
  | bl b => cases (show vx = .bl b from rx); rfl
  | int b => cases (show vx = .int b from rx); rfl
  | str b => cases (show vx = .str b from rx); rfl
  | ty b => cases (show vx = .ty b from rx); rfl
  | ref b => cases (show vx = .ref b from rx); rfl
  | scr ns => obtain ⟨a, o, rfl, _⟩ := rx; rfl
theorem BW.notN {x : D} (b : Bool) (hb : (match x with | .non => false | _ => true) = b) (h : Q (.bl b) S) : BW X (compareOp .IsNot) x .non S Q := BW.of op_notN fun F H vx vy Q' rs rx ry k => by
  refine ⟨ry, k.now rs (d := .bl b) ?_ h⟩
  subst hb
  cases x with
  | non => cases (show vx = .non from rx); rfl
  | tup xs => obtain ⟨a, vs, rfl, _⟩ := rx; rfl
  | loc l => obtain ⟨a, rfl, _⟩ := rx; rfl
  | bl b => cases (show vx = .bl b from rx); rfl
  | int b => cases (show vx = .int b from rx); rfl
  | str b => cases (show vx = .str b from rx); rfl
  | ty b => cases (show vx = .ty b from rx); rfl
  | ref b => cases (show vx = .ref b from rx); rfl
  | scr ns => obtain ⟨a, o, rfl, _⟩ := rx; rfl

/-! ### == of data -/
mutual
inductive PD (S : Store) : D → PyData → Prop
  | non : PD S .non .none
  | bl (b : Bool) : PD S (.bl b) (.bool b)
  | int (i : Int) : PD S (.int i) (.int i)
  | str (x : Str) : PD S (.str x) (.str x)
  | tup {xs : List D} {ps : List PyData} : PDs S xs ps → PD S (.tup xs) (.tuple ps)
  | lst {l : Nat} {xs : List D} {ps : List PyData} : S[l]? = some (.lst xs) → PDs S xs ps → PD S (.loc l) (.list ps)
inductive PDs (S : Store) : List D → List PyData → Prop
  | nil : PDs S [] []
  | cons {x : D} {xs : List D} {p : PyData} {ps : List PyData} : PD S x p → PDs S xs ps → PDs S (x :: xs) (p :: ps)
end
section
variable {K : PySem.W.Frag} {F : List Addr} {H : Hp}
mutual
theorem PD.dp (rs : RS F H S) : ∀ (p : PyData) (d : D) (v : V), PD S d p → RD F H d v → Dp K H v p
  | .none, d, v, h, r => by cases h; cases (show v = .non from r); exact .non
  | .bool b, d, v, h, r => by cases h; cases (show v = .bl b from r); exact .bl b
  | .int i, d, v, h, r => by cases h; cases (show v = .int i from r); exact .int i
  | .str x, d, v, h, r => by cases h; cases (show v = .str x from r); exact .str x
  | .tuple ps, d, v, h, r => by
    cases h with
    | tup h =>
      obtain ⟨a, vs, rfl, e, r⟩ := r
      exact .tup (SqT.of e) (PDs.dp rs ps _ _ h r)
  | .list ps, d, v, h, r => by
    cases h with
    | lst hl h =>
      obtain ⟨a, rfl, ha⟩ := r
      obtain ⟨a', h', e1, e2, vs, e3, e4⟩ := rs.get hl
      rw [e1] at ha; cases ha
      subst e3
      exact .lst (SqL.of e2) (PDs.dp rs ps _ _ h e4)
  | .dict kvs, d, v, h, r => by cases h
theorem PDs.dp (rs : RS F H S) : ∀ (ps : List PyData) (ds : List D) (vs : List V), PDs S ds ps → RDs F H ds vs → DpAll K H vs ps
  | [], ds, vs, h, r => by cases h; cases (show vs = [] from r); exact .nil
  | p :: ps, ds, vs, h, r => by
    cases h with
    | cons h1 h2 =>
      obtain ⟨v, r', rfl, r1, r2⟩ := r
      exact .cons (PD.dp rs p _ v h1 r1) (PDs.dp rs ps _ r' h2 r2)
end
end
theorem BW.eqD {x y : D} {p q : PyData} (hx : PD S x p) (hy : PD S y q) (sp : SeqAt.shaped p = true) (sq : SeqAt.shaped q = true) (hu : X.A.units + 64 < cLine) (h : Q (.bl (PyData.eqv p q)) S) : BW X (compareOp .Eq) x y S Q := BW.of (op_eqD hu) fun F H vx vy Q' rs rx ry k =>
  ⟨p, q, PD.dp rs p x vx hx rx, PD.dp rs q y vy hy ry, sp, sq, k.nowB rs h⟩
theorem BW.neD {x y : D} {p q : PyData} (hx : PD S x p) (hy : PD S y q) (sp : SeqAt.shaped p = true) (sq : SeqAt.shaped q = true) (hu : X.A.units + 64 < cLine) (h : Q (.bl (!PyData.eqv p q)) S) : BW X (compareOp .NotEq) x y S Q := BW.of (op_neD hu) fun F H vx vy Q' rs rx ry k =>
  ⟨p, q, PD.dp rs p x vx hx rx, PD.dp rs q y vy hy ry, sp, sq, k.nowB rs h⟩

/-! ### subscripts, len, list, tuple -/
theorem IW.list {l : Nat} {xs : List D} {d : D} (hl : S[l]? = some (.lst xs)) (ha : atI xs i = some d) (h : Q d S) : IW X (.loc l) (.int i) S Q := IW.of ix_list fun F H vx vy Q' rs rx ry k => by
  obtain ⟨a, rfl, ha'⟩ := rx
  obtain ⟨a', h', e1, e2, vs, e3, e4⟩ := rs.get hl
  rw [e1] at ha'; cases ha'
  subst e3
  obtain ⟨n, hn, hd⟩ : ∃ n, ixN xs.length i = some n ∧ xs[n]? = some d := by
    unfold atI at ha
    cases e : ixN xs.length i with
    | none => rw [e] at ha; cases ha
    | some n => rw [e] at ha; exact ⟨n, rfl, ha⟩
  obtain ⟨v, hv, r⟩ := e4.get hd
  exact ⟨a, vs, i, v, rfl, ry, SqL.of e2, by unfold atI; rw [e4.length, hn]; exact hv, k.now rs r h⟩
theorem IW.tup {xs : List D} {d : D} (ha : atI xs i = some d) (h : Q d S) : IW X (.tup xs) (.int i) S Q := IW.of ix_tup fun F H vx vy Q' rs rx ry k => by
  obtain ⟨a, vs, rfl, e2, e4⟩ := rx
  obtain ⟨n, hn, hd⟩ : ∃ n, ixN xs.length i = some n ∧ xs[n]? = some d := by
    unfold atI at ha
    cases e : ixN xs.length i with
    | none => rw [e] at ha; cases ha
    | some n => rw [e] at ha; exact ⟨n, rfl, ha⟩
  obtain ⟨v, hv, r⟩ := e4.get hd
  exact ⟨a, vs, i, v, rfl, ry, SqT.of e2, by unfold atI; rw [e4.length, hn]; exact hv, k.now rs r h⟩
theorem CW.lenL {l : Nat} {xs : List D} (hl : S[l]? = some (.lst xs)) (h : Q (.int xs.length) S) : CW X (.builtin "len") [.loc l] S Q := CW.of call_len_seq fun F H vs Q' rs r k => by
  obtain ⟨v, r', rfl, ⟨a, rfl, ha⟩, e⟩ := r
  cases (show r' = [] from e)
  obtain ⟨a', h', e1, e2, vs, e3, e4⟩ := rs.get hl
  rw [e1] at ha; cases ha
  subst e3
  exact ⟨a, vs, rfl, .inl (SqL.of e2), (by rw [e4.length]; exact k.nowI rs h)⟩
theorem CW.lenT {xs : List D} (h : Q (.int xs.length) S) : CW X (.builtin "len") [.tup xs] S Q := CW.of call_len_seq fun F H vs Q' rs r k => by
  obtain ⟨v, r', rfl, ⟨a, vs, rfl, e2, e4⟩, e⟩ := r
  cases (show r' = [] from e)
  exact ⟨a, vs, rfl, .inr (SqT.of e2), (by rw [e4.length]; exact k.nowI rs h)⟩
theorem CW.lenS {x : Str} (hz : x.length ≤ sizeLine) (h : Q (.int x.length) S) : CW X (.builtin "len") [.str x] S Q := CW.of call_len_str fun F H vs Q' rs r k => by
  obtain ⟨v, r', rfl, e1, e⟩ := r
  cases (show r' = [] from e)
  cases e1
  exact ⟨x, rfl, hz, k.nowI rs h⟩
theorem CW.max2 (hc : X.calm = true) (h : Q (.int (if j > i then j else i)) S) : CW X (.builtin "max") [.int i, .int j] S Q := CW.of (call_max2 hc) fun F H vs Q' rs r k => by
  obtain ⟨v, r', rfl, e1, v2, r2, rfl, e2, e3⟩ := r
  cases e1; cases e2; cases (show r2 = [] from e3)
  exact ⟨i, j, rfl, k.nowI rs h⟩
theorem CW.min2 (hc : X.calm = true) (h : Q (.int (if j < i then j else i)) S) : CW X (.builtin "min") [.int i, .int j] S Q := CW.of (call_min2 hc) fun F H vs Q' rs r k => by
  obtain ⟨v, r', rfl, e1, v2, r2, rfl, e2, e3⟩ := r
  cases e1; cases e2; cases (show r2 = [] from e3)
  exact ⟨i, j, rfl, k.nowI rs h⟩
theorem CW.listL {l : Nat} {xs : List D} (hl : S[l]? = some (.lst xs)) (h : Q (.loc S.length) (S ++ [.lst xs])) : CW X (.type "list") [.loc l] S Q := CW.of call_list_of fun F H vs Q' rs r k => by
  obtain ⟨v, r', rfl, ⟨a, rfl, ha⟩, e⟩ := r
  cases (show r' = [] from e)
  obtain ⟨a', h', e1, e2, vs, e3, e4⟩ := rs.get hl
  rw [e1] at ha; cases ha
  subst e3
  refine ⟨a, vs, rfl, .inl (SqL.of e2), fun p hp => ?_⟩
  exact k (F ++ [p]) (.loc S.length) (.ref p) _ _ ⟨[p], rfl⟩ (Keep.new hp) (rs.new (o := .lst xs) hp ⟨vs, rfl, e4⟩) ⟨p, rfl, by rw [← rs.len]; simp⟩ h
theorem CW.listT {xs : List D} (h : Q (.loc S.length) (S ++ [.lst xs])) : CW X (.type "list") [.tup xs] S Q := CW.of call_list_of fun F H vs Q' rs r k => by
  obtain ⟨v, r', rfl, ⟨a, vs, rfl, e2, e4⟩, e⟩ := r
  cases (show r' = [] from e)
  refine ⟨a, vs, rfl, .inr (SqT.of e2), fun p hp => ?_⟩
  exact k (F ++ [p]) (.loc S.length) (.ref p) _ _ ⟨[p], rfl⟩ (Keep.new hp) (rs.new (o := .lst xs) hp ⟨vs, rfl, e4⟩) ⟨p, rfl, by rw [← rs.len]; simp⟩ h
theorem CW.tupL {l : Nat} {xs : List D} (hl : S[l]? = some (.lst xs)) (h : Q (.tup xs) S) : CW X (.type "tuple") [.loc l] S Q := CW.of call_tuple_of fun F H vs Q' rs r k => by
  obtain ⟨v, r', rfl, ⟨a, rfl, ha⟩, e⟩ := r
  cases (show r' = [] from e)
  obtain ⟨a', h', e1, e2, vs, e3, e4⟩ := rs.get hl
  rw [e1] at ha; cases ha
  subst e3
  refine ⟨a, vs, rfl, .inl ⟨SqL.of e2, fun p hp => ?_⟩⟩
  exact k F (.tup xs) (.ref p) _ _ (List.prefix_refl F) (Keep.new hp) (rs.other hp) ⟨p, vs, rfl, upd_same, RDs.mono (List.prefix_refl F) (Keep.new hp) _ _ e4⟩ h
theorem CW.tupT {xs : List D} (h : Q (.tup xs) S) : CW X (.type "tuple") [.tup xs] S Q := CW.of call_tuple_of fun F H vs Q' rs r k => by
  obtain ⟨v, r', rfl, ⟨a, vs, rfl, e2, e4⟩, e⟩ := r
  cases (show r' = [] from e)
  exact ⟨a, vs, rfl, .inr ⟨SqT.of e2, k.now rs (d := .tup xs) ⟨a, vs, rfl, e2, e4⟩ h⟩⟩
theorem CW.intB {b : Bool} (h : Q (.int (if b then 1 else 0)) S) : CW X (.type "int") [.bl b] S Q := CW.of call_int1 fun F H vs Q' rs r k => by
  obtain ⟨v, r', rfl, e1, e⟩ := r
  cases (show r' = [] from e); cases e1
  exact .inr ⟨b, rfl, k.nowI rs h⟩
/-- max of a list of ints -/
theorem ints_rd {F : List Addr} {H : Hp} : ∀ {ns : List Int} {vs : List V}, RDs F H (ns.map D.int) vs → vs = ns.map V.int
  | [], _, h => h
  | n :: ns, _, ⟨v, r, e, h1, h2⟩ => by
    subst e
    rw [ints_rd h2]
    cases h1
    rfl
theorem CW.maxL {l : Nat} {ns : List Int} (hl : S[l]? = some (.lst (ns.map D.int))) (hp : 0 < ns.length) (hc : X.calm = true) (h : ∀ m, m ∈ ns → (∀ y, y ∈ ns → y ≤ m) → Q (.int m) S) : CW X (.builtin "max") [.loc l] S Q := CW.of (cr_max hc) fun F H vs Q' rs r k => by
  obtain ⟨v, r', rfl, ⟨a, rfl, ha⟩, e⟩ := r
  cases (show r' = [] from e)
  obtain ⟨a', h', e1, e2, vs, e3, e4⟩ := rs.get hl
  rw [e1] at ha; cases ha
  subst e3
  cases (ints_rd e4)
  exact ⟨a, ns, rfl, SqL.of e2, hp, fun m h1 h2 => k.nowI rs (h m h1 h2)⟩
theorem CW.minL {l : Nat} {ns : List Int} (hl : S[l]? = some (.lst (ns.map D.int))) (hp : 0 < ns.length) (hc : X.calm = true) (h : ∀ m, m ∈ ns → (∀ y, y ∈ ns → m ≤ y) → Q (.int m) S) : CW X (.builtin "min") [.loc l] S Q := CW.of (cr_min hc) fun F H vs Q' rs r k => by
  obtain ⟨v, r', rfl, ⟨a, rfl, ha⟩, e⟩ := r
  cases (show r' = [] from e)
  obtain ⟨a', h', e1, e2, vs, e3, e4⟩ := rs.get hl
  rw [e1] at ha; cases ha
  subst e3
  cases (ints_rd e4)
  exact ⟨a, ns, rfl, SqL.of e2, hp, fun m h1 h2 => k.nowI rs (h m h1 h2)⟩

/-! ### isinstance of built-in types -/
/-- what type a datum is of, where that is known -/
def tyName (d : D) (S : Store) : Option String := match d with
  | .non => some "NoneType"
  | .bl _ => some "bool"
  | .int _ => some "int"
  | .str _ => some "str"
  | .tup _ => some "tuple"
  | .loc l => match S[l]? with
    | some (.lst _) => some "list"
    | some (.dK _) => some "dict"
    | some (.dT _) => some "dict"
    | _ => none
  | _ => none
theorem tyx {K : PySem.W.Frag} {F : List Addr} {H : Hp} {d : D} {v : V} {n : String} (rs : RS F H S) (r : RD F H d v) (h : tyName d S = some n) : TyX K H v (.type n) := by
  cases d with
  | non => cases (show v = .non from r); cases h; exact .base .non
  | bl b => cases (show v = .bl b from r); cases h; exact .base (.bl b)
  | int b => cases (show v = .int b from r); cases h; exact .base (.int b)
  | str b => cases (show v = .str b from r); cases h; exact .base (.str b)
  | tup xs => obtain ⟨a, vs, rfl, e, _⟩ := r; cases h; exact .base (.tup e)
  | loc l =>
    obtain ⟨a, rfl, ha⟩ := r
    unfold tyName at h
    cases e : S[l]? with
    | none => simp only [e] at h; cases h
    | some o =>
      obtain ⟨a', h', e1, e2, e3⟩ := rs.get e
      rw [e1] at ha; cases ha
      cases o with
      | lst xs => simp only [e] at h; cases h; obtain ⟨vs, rfl, _⟩ := e3; exact .base (.lst e2)
      | dK xs => simp only [e] at h; cases h; obtain ⟨vs, rfl, _⟩ := e3; exact .base (.dK e2)
      | dT xs => simp only [e] at h; cases h; obtain ⟨vs, rfl, _⟩ := e3; exact .base (.dT e2)
      | ins C fs => simp only [e] at h; cases h
      | frz o u => simp only [e] at h; cases h
  | _ => cases h
theorem clsV_ty (n : String) : ClsV (.ty n) (.type n) := by constructor
theorem CW.isi {x : D} {n c : String} {b : Bool} (hx : tyName x S = some n) (hb : kitB n c = some b) (h : Q (.bl b) S) : CW X (.builtin "isinstance") [x, .ty c] S Q := CW.of call_isi fun F H vs Q' rs r k => by
  obtain ⟨v, r', rfl, e1, v2, r2, rfl, e2, e3⟩ := r
  cases (show r2 = [] from e3)
  cases (show v2 = .ty c from e2)
  exact ⟨v, .ty c, _, _, b, rfl, clsV_ty c, tyx rs e1 hx, kit_ty hb, k.nowB rs h⟩
theorem CW.isi2 {x : D} {n c c' : String} {b b' : Bool} (hx : tyName x S = some n) (hb : kitB n c = some b) (hb' : kitB n c' = some b') (h : Q (.bl (b || b')) S) : CW X (.builtin "isinstance") [x, .tup [.ty c, .ty c']] S Q := CW.of call_isiT fun F H vs Q' rs r k => by
  obtain ⟨v, r', rfl, e1, v2, r2, rfl, ⟨tp, cs, rfl, et, u1, _, rfl, g1, u2, _, rfl, g2, rfl⟩, e3⟩ := r
  cases (show r2 = [] from e3)
  cases (show u1 = .ty c from g1)
  cases (show u2 = .ty c' from g2)
  refine ⟨v, tp, _, _, [.type c, .type c'], b || b', rfl, et, .cons (clsV_ty c) (.cons (clsV_ty c') .nil), tyx rs e1 hx, ?_, k.nowB rs h⟩
  refine kitAny_cons (kit_ty hb) (fun e => ?_) (fun e => by simp [e])
  refine kitAny_cons (kit_ty hb') (fun e' => ?_) (fun e' => by simp [e'])
  rw [e, e']
  exact kitAny_nil

/-! ### the script -/
def KList (K : PySem.W.Frag) (a : Addr) (xs : List V) : Prop := ∃ (o : Obj) (its : Array Value) (n : Nat), K.lookup a = some o ∧ o.cls = .type "list" ∧ o.dict = none ∧ o.data = .seq its n ∧ its.size ≤ sizeLine ∧ Vals xs its.toList
/-- the script as it is handed in -/
def ScrD (K : PySem.W.Frag) (d : D) (ns : List Int) : Prop := d = .scr ns ∨ ∃ a, d = .ref a ∧ KList K a (ns.map V.int)
theorem ScrD.sq {K : PySem.W.Frag} {F : List Addr} {H : Hp} {d : D} {v : V} {ns : List Int} (h : ScrD K d ns) (r : RD F H d v) : ∃ a, v = .ref a ∧ SqL K H a (ns.map V.int) := by
  rcases h with rfl | ⟨a, rfl, k⟩
  · obtain ⟨a, o, rfl, e⟩ := r
    exact ⟨a, rfl, .inl (.inr ⟨o, e⟩)⟩
  · exact ⟨a, r, .inr k⟩
theorem ints_of_rd {F : List Addr} {H : Hp} : ∀ (ns : List Int), RDs F H (ns.map D.int) (ns.map V.int)
  | [] => rfl
  | n :: ns => ⟨.int n, _, rfl, rfl, ints_of_rd ns⟩
theorem CW.listScr {d : D} {ns : List Int} (hs : ScrD X.K d ns) (h : Q (.loc S.length) (S ++ [.lst (ns.map D.int)])) : CW X (.type "list") [d] S Q := CW.of call_list_of fun F H vs Q' rs r k => by
  obtain ⟨v, r', rfl, r1, e⟩ := r
  cases (show r' = [] from e)
  obtain ⟨a, rfl, sq⟩ := hs.sq r1
  refine ⟨a, _, rfl, .inl sq, fun p hp => ?_⟩
  exact k (F ++ [p]) (.loc S.length) (.ref p) _ _ ⟨[p], rfl⟩ (Keep.new hp) (rs.new (o := .lst (ns.map D.int)) hp ⟨_, rfl, ints_of_rd ns⟩) ⟨p, rfl, by rw [← rs.len]; simp⟩ h
theorem WI.scr {tg e : Expr} {v : Fv} {R : Src → Store → Prop} (h : WE X e v S fun d S1 => ∃ ns, ScrD X.K d ns ∧ R ⟨ns.map D.int, fun _ => True⟩ S1) : WI X tg e v S R := fun F t H R' re rs k => by
  refine wI_of (pi_list pe_w) ?_
  refine h F t H _ re rs fun F1 d u H1 S1 p1 k1 rs1 r1 h1 => ?_
  obtain ⟨ns, hs, q⟩ := h1
  obtain ⟨a, rfl, sq⟩ := hs.sq r1
  refine ⟨a, rfl, ⟨_, sq⟩, k F1 (Itl X.K a) H1 S1 ⟨ns.map D.int, fun _ => True⟩ p1 k1 rs1 (fun F2 H2 S2 p2 k2 rs2 ok => ?_) q⟩
  obtain ⟨a', e', sq2⟩ := hs.sq (r1.mono p2 k2)
  cases e'
  refine ⟨fun i hi => ?_, _, sq2, by simp⟩
  have hi : i < ns.length := by simpa using hi
  have q1 : (ns.map V.int)[i]? = some (.int ns[i]) := by rw [List.getElem?_map, List.getElem?_eq_getElem hi]; rfl
  refine ⟨⟨_, _, sq2, q1⟩, fun y H3 hy => ?_⟩
  obtain ⟨rfl, hy⟩ := hy
  have := hy _ sq2
  rw [q1] at this; cases this
  exact ⟨Keep.refl _, rs2, .int ns[i], by show (ns.map D.int)[i]? = _; rw [List.getElem?_map, List.getElem?_eq_getElem hi]; rfl, rfl⟩
/-! ### list methods -/
theorem MW.append {l : Nat} {xs : List D} {d : D} (hl : S[l]? = some (.lst xs)) (hz : xs.length < sizeLine) (h : Q .non (S.set l (.lst (xs ++ [d])))) : MW X "list.append" (.loc l) [d] S Q := MW.of mt_append fun F H vx vs Q' rs rx r k => by
  obtain ⟨a, rfl, ha⟩ := rx
  obtain ⟨a', h', e1, e2, ws, e3, e4⟩ := rs.get hl
  rw [e1] at ha; cases ha
  subst e3
  obtain ⟨v, r', rfl, q1, q2⟩ := r
  cases (show r' = [] from q2)
  refine ⟨a, ws, v, rfl, rfl, e2, by rw [e4.length]; exact hz, ?_⟩
  exact k F .non .non _ _ (List.prefix_refl F) (Keep.upd e2 trivial) (rs.set (o := .lst (xs ++ [d])) e1 e2 trivial ⟨_, rfl, e4.append ⟨v, [], rfl, q1, rfl⟩⟩) rfl h
theorem MW.pop {l : Nat} {xs : List D} {d : D} (hl : S[l]? = some (.lst (xs ++ [d]))) (h : Q d (S.set l (.lst xs))) : MW X "list.pop" (.loc l) [] S Q := MW.of mt_pop fun F H vx vs Q' rs rx r k => by
  obtain ⟨a, rfl, ha⟩ := rx
  obtain ⟨a', h', e1, e2, ws, e3, e4⟩ := rs.get hl
  rw [e1] at ha; cases ha
  subst e3
  cases (show vs = [] from r)
  have hd : (xs ++ [d])[xs.length]? = some d := by simp
  obtain ⟨v, hv, rv⟩ := e4.get hd
  have hlen : ws.length = xs.length + 1 := by rw [e4.length]; simp
  refine ⟨a, ws, v, rfl, rfl, e2, by rw [hlen]; simpa using hv, ?_⟩
  have r2 : RDs F H xs ws.dropLast := by
    have := e4.dropLast
    rwa [List.dropLast_concat] at this
  have kk : Keep H (upd H a (.lst ws.dropLast)) := Keep.upd e2 trivial
  exact k F d v _ _ (List.prefix_refl F) kk (rs.set (o := .lst xs) e1 e2 trivial ⟨_, rfl, r2⟩) (rv.mono (List.prefix_refl F) kk) h
theorem MW.popAt {l : Nat} {xs : List D} {d : D} {n : Nat} (hl : S[l]? = some (.lst xs)) (hd : xs[n]? = some d) (hi : i = (n : Int)) (hz : n < 2 ^ 63) (h : Q d (S.set l (.lst (xs.eraseIdx n)))) : MW X "list.pop" (.loc l) [.int i] S Q := MW.of mt_popAt fun F H vx vs Q' rs rx r k => by
  obtain ⟨a, rfl, ha⟩ := rx
  obtain ⟨a', h', e1, e2, ws, e3, e4⟩ := rs.get hl
  rw [e1] at ha; cases ha
  subst e3
  obtain ⟨v0, r', rfl, q1, q2⟩ := r
  cases (show r' = [] from q2)
  cases (show v0 = .int i from q1)
  obtain ⟨v, hv, rv⟩ := e4.get hd
  have hn : n < xs.length := (List.getElem?_eq_some_iff.mp hd).1
  have hs : seqIndex? i ws.length = some n := by
    have := (ixN_seq (n := ws.length) (i := i) (j := n) (by
      unfold ixN
      rw [e4.length]
      rw [if_pos (by omega), if_pos (by omega)]
      simp [hi])).1
    exact this
  have kk : Keep H (upd H a (.lst (ws.eraseIdx n))) := Keep.upd e2 trivial
  refine ⟨a, ws, i, n, v, rfl, rfl, e2, by omega, by omega, hs, hv, ?_⟩
  exact k F d v _ _ (List.prefix_refl F) kk (rs.set (o := .lst (xs.eraseIdx n)) e1 e2 trivial ⟨_, rfl, RDs.eraseIdx n e4⟩) (rv.mono (List.prefix_refl F) kk) h
theorem MW.extend {l m : Nat} {xs ys : List D} (hl : S[l]? = some (.lst xs)) (hm : S[m]? = some (.lst ys)) (hz : xs.length + ys.length ≤ sizeLine) (h : Q .non (S.set l (.lst (xs ++ ys)))) : MW X "list.extend" (.loc l) [.loc m] S Q := MW.of mt_extend fun F H vx vs Q' rs rx r k => by
  obtain ⟨a, rfl, ha⟩ := rx
  obtain ⟨a', h', e1, e2, ws, e3, e4⟩ := rs.get hl
  rw [e1] at ha; cases ha
  subst e3
  obtain ⟨v0, r', rfl, ⟨b, rfl, hb⟩, q2⟩ := r
  cases (show r' = [] from q2)
  obtain ⟨b', h2, g1, g2, us, g3, g4⟩ := rs.get hm
  rw [g1] at hb; cases hb
  subst g3
  refine ⟨a, b, ws, us, rfl, rfl, e2, g2, by rw [e4.length, g4.length]; exact hz, ?_⟩
  exact k F .non .non _ _ (List.prefix_refl F) (Keep.upd e2 trivial) (rs.set (o := .lst (xs ++ ys)) e1 e2 trivial ⟨_, rfl, e4.append g4⟩) rfl h
/-! ### + of lists, tuples -/
theorem BW.catL {l m : Nat} {xs ys : List D} (hl : S[l]? = some (.lst xs)) (hm : S[m]? = some (.lst ys)) (hz : xs.length + ys.length ≤ sizeLine) (h : Q (.loc S.length) (S ++ [.lst (xs ++ ys)])) : BW X (binaryOp .Add) (.loc l) (.loc m) S Q := BW.of op_cat fun F H vx vy Q' rs rx ry k => by
  obtain ⟨a, rfl, ha⟩ := rx
  obtain ⟨a', h', e1, e2, ws, e3, e4⟩ := rs.get hl
  rw [e1] at ha; cases ha
  subst e3
  obtain ⟨b, rfl, hb⟩ := ry
  obtain ⟨b', h2, g1, g2, us, g3, g4⟩ := rs.get hm
  rw [g1] at hb; cases hb
  subst g3
  refine ⟨a, b, ws, us, rfl, rfl, e2, g2, by rw [e4.length, g4.length]; exact hz, fun p hp => ?_⟩
  exact k (F ++ [p]) (.loc S.length) (.ref p) _ _ ⟨[p], rfl⟩ (Keep.new hp) (rs.new (o := .lst (xs ++ ys)) hp ⟨_, rfl, e4.append g4⟩) ⟨p, rfl, by rw [← rs.len]; simp⟩ h
theorem BW.catT {xs ys : List D} (hn : xs ≠ []) (hz : xs.length + ys.length ≤ sizeLine) (h : Q (.tup (xs ++ ys)) S) : BW X (binaryOp .Add) (.tup xs) (.tup ys) S Q := BW.of op_catT fun F H vx vy Q' rs rx ry k => by
  obtain ⟨a, ws, rfl, e2, e4⟩ := rx
  obtain ⟨b, us, rfl, g2, g4⟩ := ry
  have hw : ws ≠ [] := fun z => hn (by have := e4.length; rw [z] at this; exact List.eq_nil_of_length_eq_zero this.symm)
  refine ⟨a, b, ws, us, rfl, rfl, SqT.of e2, SqT.of g2, hw, by rw [e4.length, g4.length]; exact hz, fun hu => ?_, fun hu => ?_⟩
  · have hy : ys = [] := by
      have := g4.length
      rw [hu] at this
      exact List.eq_nil_of_length_eq_zero this.symm
    rw [hy, List.append_nil] at h
    exact k.now rs (d := .tup xs) ⟨a, ws, rfl, e2, e4⟩ h
  · intro p hp
    exact k F (.tup (xs ++ ys)) (.ref p) _ _ (List.prefix_refl F) (Keep.new hp) (rs.other hp) ⟨p, _, rfl, upd_same, RDs.mono (List.prefix_refl F) (Keep.new hp) _ _ (e4.append g4)⟩ h
end ops
end DM

namespace DM
open PySem PySem.Spec PyProof.Rows L2
/-! ### places below a bound -/
/-- knowing less of the store at a return: what stands from n on is dropped -/
def bel (n : Nat) : D → Bool
  | .loc l => decide (l < n)
  | .tup xs => belAll n xs
  | _ => true
where belAll (n : Nat) : List D → Bool
  | [] => true
  | x :: xs => bel n x && belAll n xs
def belK {κ : Type} (n : Nat) : List (κ × D) → Bool
  | [] => true
  | x :: xs => bel n x.2 && belK n xs
def belO (n : Nat) : Ob → Bool
  | .lst xs => bel.belAll n xs
  | .dK kvs => belK n kvs
  | .dT kvs => belK n kvs
  | .ins _ fs => belK n fs
  | .frz _ u => belO n u
/-- every object below n bears places below n alone -/
def belS (n : Nat) (S : Store) : Prop := ∀ (l : Nat) (o : Ob), S[l]? = some o → belO n o = true
section
variable {F : List Addr} {H : Hp}
mutual
theorem RD.bel : ∀ {d : D} {v : V}, RD F H d v → bel F.length d = true
  | .non, _, _ => rfl
  | .bl _, _, _ => rfl
  | .int _, _, _ => rfl
  | .str _, _, _ => rfl
  | .ty _, _, _ => rfl
  | .ref _, _, _ => rfl
  | .tup xs, _, ⟨a, vs, e, s, r⟩ => RDs.bel (xs := xs) r
  | .loc l, _, ⟨a, e, h⟩ => decide_eq_true (List.getElem?_eq_some_iff.mp h).1
  | .scr _, _, _ => rfl
theorem RDs.bel : ∀ {xs : List D} {vs : List V}, RDs F H xs vs → bel.belAll F.length xs = true
  | [], _, _ => rfl
  | x :: xs, _, ⟨v, r, e, h1, h2⟩ => by
    show (DM.bel F.length x && bel.belAll F.length xs) = true
    rw [RD.bel h1, RDs.bel h2]; rfl
end
theorem RKs.bel {κ : Type} : ∀ {xs : List (κ × D)} {vs : List (κ × V)}, RKs F H xs vs → belK F.length xs = true
  | [], _, _ => rfl
  | x :: xs, _, ⟨v, r, e, h1, h2⟩ => by
    show (DM.bel F.length x.2 && belK F.length xs) = true
    rw [RD.bel h1, RKs.bel h2]; rfl
theorem RO.bel : ∀ {o : Ob} {h : HO}, RO F H o h → belO F.length o = true
  | .lst _, _, ⟨_, _, r⟩ => RDs.bel r
  | .dK _, _, ⟨_, _, r⟩ => RKs.bel r
  | .dT _, _, ⟨_, _, r⟩ => RKs.bel r
  | .ins _ _, _, ⟨_, _, _, r⟩ => RKs.bel r
  | .frz _ u, _, ⟨_, _, r⟩ => RO.bel (o := u) r
theorem RS.bel {S : Store} (rs : RS F H S) : belS S.length S := fun l o e => by
  obtain ⟨a, h, _, _, r⟩ := rs.ob l o e
  rw [← rs.len]
  exact r.bel
end
/-! ### defs by names -/
section
variable (P : Program) (w : World) (K : PySem.W.Frag) (mg : Str → Option Value) (base : Heap)
/-- a def of the module's, by its name: what it promises -/
structure Cal (x : Str) (k : Nat) (ps : List Str) (sp : SpD) : Prop where
  ex : ∃ (f : Addr) (fd : FuncData), FnOk P w K mg base CX0 k f fd ps (spD K sp) ∧ mg x = some (.ref f) ∧ PySem.W.keepIn K (.ref f) = true ∧ Binds K fd ps []
/-- a method -/
structure MCal (C : Addr) (m : Str) (k : Nat) (ps : List Str) (sp : SpD) : Prop where
  ex : ∃ (f : Addr) (fd : FuncData), FnOk P w K mg base CX0 k f fd ps (spD K sp) ∧ Meth K C m f ∧ Binds K fd ps []
/-- __init__ -/
structure ICal (C : Addr) (k : Nat) (ps : List Str) (sp : SpD) : Prop where
  ex : ∃ (f : Addr) (fd : FuncData), FnOk P w K mg base CX0 k f fd ps (spD K sp) ∧ Mk K C f ∧ Binds K fd ps []
/-- a def as it stands behind the top -/
structure Df (x qual : Str) (st : Stmt) (f : Addr) : Prop where
  ex : ∃ fd : FuncData, FunD K x qual (defArgs st) (defBody st) (defScope st) [] [] f fd
end
section
variable {P : Program} {w : World} {K : PySem.W.Frag} {mg : Str → Option Value} {base : Heap}
theorem Cal.mono {x : Str} {j k : Nat} {ps : List Str} {sp : SpD} (c : Cal P w K mg base x j ps sp) (h : j ≤ k) : Cal P w K mg base x k ps sp := by
  obtain ⟨f, fd, G, r⟩ := c.ex
  exact ⟨f, fd, G.mono h, r⟩
theorem MCal.mono {C : Addr} {x : Str} {j k : Nat} {ps : List Str} {sp : SpD} (c : MCal P w K mg base C x j ps sp) (h : j ≤ k) : MCal P w K mg base C x k ps sp := by
  obtain ⟨f, fd, G, r⟩ := c.ex
  exact ⟨f, fd, G.mono h, r⟩
def spImp (sp sp' : SpD) : Prop := ∀ ds S Q, sp' ds S Q → sp ds S Q
theorem Cal.imp {x : Str} {k : Nat} {ps : List Str} {sp sp' : SpD} (c : Cal P w K mg base x k ps sp) (h : spImp sp sp') : Cal P w K mg base x k ps sp' := by
  obtain ⟨f, fd, G, r⟩ := c.ex
  exact ⟨f, fd, G.imp (fun vs H Q E ⟨F, ds, S, Qd, a, b, c, d⟩ => ⟨F, ds, S, Qd, a, b, h _ _ _ c, d⟩), r⟩
/-- the body keeps the promise -/
def BodyOk (P : Program) (w : World) (K : PySem.W.Frag) (mg : Str → Option Value) (base : Heap) (N : List Str) (qual : Str) (st : Stmt) (f : Addr) (k : Nat) (sp : SpD) : Prop :=
  ∀ (cdv : Value) (A : Around) (outer : List Env) (s : Shared) (H : Hp) (E : XK) (ds : List D) (S : Store) (Q : D → Store → Prop), Room k (cxOf CX0 P w K mg base N qual (defScope st) f cdv A outer s H E).nox.A → belS S.length S → bel.belAll S.length ds = true → sp ds S Q →
    WSs (cxOf CX0 P w K mg base N qual (defScope st) f cdv A outer s H E).nox S.length (defBody st) (startD N ds) S (fnEnds S.length Q)
theorem fnOkD {x qual : Str} {st : Stmt} {f : Addr} {fd : FuncData} {N ps : List Str} {k : Nat} {sp : SpD} (Fn : FunD K x qual (defArgs st) (defBody st) (defScope st) [] [] f fd) (Sc : FnScope N ps (defScope st)) (len : ∀ ds S Q, sp ds S Q → ds.length = ps.length)
    (body : BodyOk P w K mg base N qual st f k sp) : FnOk P w K mg base CX0 (k + 1) f fd ps (spD K sp) := by
  refine Fn.ok Sc (fun vs H Q E h => ?_) (fun cdv A outer s H vs Q E hr h => ?_)
  · obtain ⟨F, ds, S, Qd, rs, r, hs, k⟩ := h
    rw [r.length]
    exact len ds S Qd hs
  · obtain ⟨F, ds, S, Qd, rs, r, hs, kp⟩ := h
    refine ⟨_, PSs.nox pss_w, ?_⟩
    have q := body cdv A outer s H E ds S Qd hr rs.bel (rs.len ▸ RDs.bel r) hs
    have hp := post_fn kp
    rw [rs.len] at hp
    exact q F H F (L2.start N vs) H _ rs.len (List.prefix_refl F) (Keep.refl H) (re_start r) rs hp
abbrev BindOk (x qual : Str) (st : Stmt) (ps : List Str) : Prop := ∀ (kV doc pm : Value) (an : Option Addr) (cdv ct : Value) (us : List Value), us.length = ps.length → bindArgs (PySem.W.fnOf x qual (defArgs st) (defBody st) (defScope st) .none kV doc pm an cdv ct) ⟨us, []⟩ = pure (ps.zip us)
theorem calD {x : Str} {st : Stmt} {f : Addr} {N ps : List Str} {k : Nat} {sp : SpD} (df : Df K x x st f) (hm : mg x = some (.ref f)) (Sc : FnScope N ps (defScope st)) (b : BindOk x x st ps) (len : ∀ ds S Q, sp ds S Q → ds.length = ps.length)
    (body : BodyOk P w K mg base N x st f k sp) : Cal P w K mg base x (k + 1) ps sp := by
  obtain ⟨fd, F⟩ := df.ex
  exact ⟨f, fd, fnOkD F Sc len body, hm, F.kp, F.bindsN b⟩
theorem mcalD {C : Addr} {x qual : Str} {st : Stmt} {f : Addr} {N ps : List Str} {k : Nat} {sp : SpD} (df : Df K x qual st f) (hm : Meth K C x f) (Sc : FnScope N ps (defScope st)) (b : BindOk x qual st ps) (len : ∀ ds S Q, sp ds S Q → ds.length = ps.length)
    (body : BodyOk P w K mg base N qual st f k sp) : MCal P w K mg base C x (k + 1) ps sp := by
  obtain ⟨fd, F⟩ := df.ex
  exact ⟨f, fd, fnOkD F Sc len body, hm, F.bindsN b⟩
theorem icalD {C : Addr} {x qual : Str} {st : Stmt} {f : Addr} {N ps : List Str} {k : Nat} {sp : SpD} (df : Df K x qual st f) (hm : Mk K C f) (Sc : FnScope N ps (defScope st)) (b : BindOk x qual st ps) (len : ∀ ds S Q, sp ds S Q → ds.length = ps.length)
    (body : BodyOk P w K mg base N qual st f k sp) : ICal P w K mg base C (k + 1) ps sp := by
  obtain ⟨fd, F⟩ := df.ex
  exact ⟨f, fd, fnOkD F Sc len body, hm, F.bindsN b⟩
end
section
variable {X : Cx} {k : Nat} {C : Addr} {ps : List Str} {sp : SpD} {x m : Str} {a o : Expr} {es : List Expr} {v : Fv} {S : Store} {Q : D → Store → Prop} {p pos apos : Pos}
theorem WE.cal (c : Cal X.prog X.w X.K X.mg X.base x k ps sp) (hr : Room k X.A) (h : WA X (a :: es) v S fun ds S1 => sp ds S1 Q) (hg : Gl X x := by rfl)
    (hdb : (x == ("__debug__" : Str)) = false := by decide) (he : starEach (a :: es) X.env = (false, eval a X.env) :: starEach es X.env := by rfl) (hpl : (backTo pos (starEach es X.env)).any (·.1) = false := by rfl) : WE X (.Call (.Name x p) (a :: es) [] pos) v S Q := by
  obtain ⟨f, fd, G, hm, hk, hb⟩ := c.ex
  exact WE.call G hr hm hk hb h hg hdb he hpl
theorem WE.cal0 (c : Cal X.prog X.w X.K X.mg X.base x k ps sp) (hr : Room k X.A) (h : sp [] S Q) (hg : Gl X x := by rfl) (hdb : (x == ("__debug__" : Str)) = false := by decide) : WE X (.Call (.Name x p) [] [] pos) v S Q := by
  obtain ⟨f, fd, G, hm, hk, hb⟩ := c.ex
  exact WE.call0 G hr hm hk hb h hg hdb
theorem WE.mcal {pl : Sem Bool} (c : MCal X.prog X.w X.K X.mg X.base C m k ps sp) (hr : Room k X.A) (cl : Cls X.K C)
    (h : WE X o v S fun d S1 => ∃ l fs, d = .loc l ∧ S1[l]? = some (.ins C fs) ∧ fs.lookup m = none ∧ WA X (a :: es) v S1 fun ds S2 => sp (.loc l :: ds) S2 Q)
    (hst : starEach (a :: es) X.env = (false, eval a X.env) :: starEach es X.env := by rfl) (hpl : (backTo pos (starEach es X.env)).any (·.1) = false := by rfl)
    (ht : eval (.Call (.Attribute o m apos) (a :: es) [] pos) X.env = (do
      let ov ← eval o X.env
      standAt apos.atName
      let (f, first) ← holding [ov] (getMethod ov m pl)
      callWith pos f first (backTo pos (starEach (a :: es) X.env)) (backToKw pos (keywordEach [] X.env))) := by rfl) : WE X (.Call (.Attribute o m apos) (a :: es) [] pos) v S Q := by
  obtain ⟨f, fd, G, hm, hb⟩ := c.ex
  exact WE.meth G hr cl hm hb h hst hpl ht
theorem WE.mcal0 {pl : Sem Bool} (c : MCal X.prog X.w X.K X.mg X.base C m k ps sp) (hr : Room k X.A) (cl : Cls X.K C)
    (h : WE X o v S fun d S1 => ∃ l fs, d = .loc l ∧ S1[l]? = some (.ins C fs) ∧ fs.lookup m = none ∧ sp [.loc l] S1 Q)
    (ht : eval (.Call (.Attribute o m apos) [] [] pos) X.env = (do
      let ov ← eval o X.env
      standAt apos.atName
      let (f, first) ← holding [ov] (getMethod ov m pl)
      callWith pos f first (backTo pos (starEach [] X.env)) (backToKw pos (keywordEach [] X.env))) := by rfl) : WE X (.Call (.Attribute o m apos) [] [] pos) v S Q := by
  obtain ⟨f, fd, G, hm, hb⟩ := c.ex
  exact WE.meth0 G hr cl hm hb h ht
end
/-! ### forgetting, made -/
section
variable {F : List Addr} {H : Hp} {n : Nat}
mutual
theorem RD.cut {G : List Addr} (hF : ∀ l, l < n → G[l]? = F[l]?) : ∀ (d : D) (v : V), bel n d = true → RD F H d v → RD G H d v
  | .non, _, _, h => h
  | .bl _, _, _, h => h
  | .int _, _, _, h => h
  | .str _, _, _, h => h
  | .ty _, _, _, h => h
  | .ref _, _, _, h => h
  | .tup xs, _, b, ⟨a, vs, e, s, r⟩ => ⟨a, vs, e, s, RDs.cut hF xs vs b r⟩
  | .loc l, _, b, ⟨a, e, h⟩ => ⟨a, e, (hF l (of_decide_eq_true b)).trans h⟩
  | .scr _, _, _, h => h
theorem RDs.cut {G : List Addr} (hF : ∀ l, l < n → G[l]? = F[l]?) : ∀ (xs : List D) (vs : List V), bel.belAll n xs = true → RDs F H xs vs → RDs G H xs vs
  | [], _, _, h => h
  | x :: xs, _, b, ⟨v, r, e, h1, h2⟩ => by
    have b' : (DM.bel n x && DM.bel.belAll n xs) = true := b
    rw [Bool.and_eq_true] at b'
    exact ⟨v, r, e, RD.cut hF x v b'.1 h1, RDs.cut hF xs r b'.2 h2⟩
end
theorem RKs.cut {κ : Type} {G : List Addr} (hF : ∀ l, l < n → G[l]? = F[l]?) : ∀ (xs : List (κ × D)) (vs : List (κ × V)), belK n xs = true → RKs F H xs vs → RKs G H xs vs
  | [], _, _, h => h
  | x :: xs, _, b, ⟨v, r, e, h1, h2⟩ => by
    have b' : (DM.bel n x.2 && belK n xs) = true := b
    rw [Bool.and_eq_true] at b'
    exact ⟨v, r, e, h1.cut hF _ _ b'.1, RKs.cut hF xs r b'.2 h2⟩
theorem RO.cut {G : List Addr} (hF : ∀ l, l < n → G[l]? = F[l]?) : ∀ (o : Ob) (h : HO), belO n o = true → RO F H o h → RO G H o h
  | .lst xs, _, b, ⟨vs, e, r⟩ => ⟨vs, e, RDs.cut hF xs vs b r⟩
  | .dK xs, _, b, ⟨vs, e, r⟩ => ⟨vs, e, RKs.cut hF xs vs b r⟩
  | .dT xs, _, b, ⟨vs, e, r⟩ => ⟨vs, e, RKs.cut hF xs vs b r⟩
  | .ins C xs, _, b, ⟨dx, vs, e, r⟩ => ⟨dx, vs, e, RKs.cut hF xs vs b r⟩
  | .frz o u, _, b, ⟨g, e, r⟩ => ⟨g, e, RO.cut hF u g b r⟩
theorem take_get {α : Type} {l : List α} {n i : Nat} (h : i < n) : (l.take n)[i]? = l[i]? := by
  rw [List.getElem?_take]
  simp [h]
theorem RS.cut {S : Store} (rs : RS F H S) (b : belS n (S.take n)) : RS (F.take n) H (S.take n) := by
  refine ⟨by simp [rs.len], rs.nd.sublist (List.take_sublist _ _), fun l o e => ?_⟩
  have hl : l < n := by
    have := (List.getElem?_eq_some_iff.mp e).1
    simp at this; omega
  have e' := e
  rw [take_get hl] at e'
  obtain ⟨a, h, q1, q2, q3⟩ := rs.ob l o e'
  exact ⟨a, h, by rw [take_get hl]; exact q1, q2, RO.cut (n := n) (fun j hj => take_get hj) o h (b l o e) q3⟩
/-- below n all is closed: what came behind is dropped -/
theorem CovD.take {m : Nat} {d : D} {S : Store} (hm : n ≤ m) (b : belS m (S.take m)) (bd : bel m d = true) : CovD n d S d (S.take m) := fun F H u r rs =>
  ⟨F.take m, by
    have : F.take n = (F.take m).take n := by rw [List.take_take, Nat.min_eq_left hm]
    rw [this]; exact List.take_prefix _ _, RD.cut (n := m) (fun j hj => take_get hj) d u bd r, rs.cut b⟩
theorem CovS.take {m : Nat} {S : Store} (hm : n ≤ m) (b : belS m (S.take m)) : CovS n S (S.take m) := fun F H rs =>
  ⟨F.take m, by
    have : F.take n = (F.take m).take n := by rw [List.take_take, Nat.min_eq_left hm]
    rw [this]; exact List.take_prefix _ _, rs.cut b⟩
/-- the frame with fewer names known -/
def lessV (v2 v : Fv) : Prop := v2.length = v.length ∧ ∀ (i : Nat) (d : D), v2[i]? = some (some d) → v[i]? = some (some d)
def belV (n : Nat) (v : Fv) : Prop := ∀ (i : Nat) (d : D), v[i]? = some (some d) → bel n d = true
theorem CovE.take {m : Nat} {v v2 : Fv} {S : Store} (hm : n ≤ m) (b : belS m (S.take m)) (le : lessV v2 v) (bv : belV m v2) : CovE n v S v2 (S.take m) := fun F H t re rs =>
  ⟨F.take m, by
    have : F.take n = (F.take m).take n := by rw [List.take_take, Nat.min_eq_left hm]
    rw [this]; exact List.take_prefix _ _, ⟨by rw [le.1]; exact re.len, fun i d h => by
      obtain ⟨u, q1, q2⟩ := re.at_ i d (le.2 i d h)
      exact ⟨u, q1, RD.cut (n := m) (fun j hj => take_get hj) d u (bv i d h) q2⟩⟩, rs.cut b⟩
theorem CovD.drop {S G : Store} {d : D} (b : belS S.length S) (bd : bel S.length d = true) : CovD S.length d (S ++ G) d S := by
  have := CovD.take (n := S.length) (m := S.length) (d := d) (S := S ++ G) (Nat.le_refl _) (by simpa using b) bd
  simpa using this
theorem CovS.drop {S G : Store} (hn : n ≤ S.length) (b : belS S.length S) : CovS n (S ++ G) S := by
  have := CovS.take (n := n) (m := S.length) (S := S ++ G) hn (by simpa using b)
  simpa using this
theorem CovE.drop {S G : Store} {v v2 : Fv} (hn : n ≤ S.length) (b : belS S.length S) (le : lessV v2 v) (bv : belV S.length v2) : CovE n v (S ++ G) v2 S := by
  have := CovE.take (n := n) (m := S.length) (v := v) (v2 := v2) (S := S ++ G) hn (by simpa using b) le bv
  simpa using this
/-- a new object alone is kept -/
theorem CovD.one {S G : Store} {k : Nat} {o : Ob} (b : belS S.length S) (hk : S.length ≤ k) (ho : (S ++ G)[k]? = some o) (bo : belO S.length o = true) : CovD S.length (.loc k) (S ++ G) (.loc S.length) (S ++ [o]) := fun F H u r rs => by
  obtain ⟨a, rfl, ha⟩ := r
  obtain ⟨a', h, q1, q2, q3⟩ := rs.ob k o ho
  rw [q1] at ha; cases ha
  have hc := rs.cut (n := S.length) (by simpa using b)
  simp only [List.take_left'] at hc
  have hlen : (F.take S.length).length = S.length := by
    rw [List.length_take, rs.len]; simp
  have hnot : a ∉ F.take S.length := fun hm => by
    obtain ⟨j, hj, e⟩ := List.mem_iff_getElem.mp hm
    have hj' : j < S.length := by rw [hlen] at hj; exact hj
    have e1 : F[j]? = some a := by
      rw [← take_get hj', List.getElem?_eq_getElem hj, e]
    have h1 := List.getElem?_eq_some_iff.mp q1
    have h2 := List.getElem?_eq_some_iff.mp e1
    have := (List.getElem_inj rs.nd).mp (h1.2.trans h2.2.symm)
    omega
  have pp : F.take S.length <+: F.take S.length ++ [a] := ⟨[a], rfl⟩
  have get1 : ∀ l, l < S.length → (F.take S.length ++ [a])[l]? = F[l]? := fun l hl => by
    rw [List.getElem?_append_left (by rw [hlen]; exact hl), take_get hl]
  refine ⟨F.take S.length ++ [a], pp, ⟨a, rfl, by rw [List.getElem?_append_right (by rw [hlen]; exact Nat.le_refl _), hlen]; simp⟩, ?_, ?_, fun l ob e => ?_⟩
  · simp [hlen]
  · rw [List.nodup_append]
    refine ⟨rs.nd.sublist (List.take_sublist _ _), by simp, fun x hx y hy e => ?_⟩
    have : y = a := by simpa using hy
    subst this; subst e
    exact hnot hx
  · by_cases hl : l < S.length
    · have e' : (S ++ G)[l]? = some ob := by
        rw [List.getElem?_append_left hl] at e
        rw [List.getElem?_append_left hl]; exact e
      obtain ⟨b', g, g1, g2, g3⟩ := rs.ob l ob e'
      rw [List.getElem?_append_left hl] at e
      exact ⟨b', g, (get1 l hl).trans g1, g2, RO.cut (n := S.length) get1 ob g (b l ob e) g3⟩
    · have hl' : l = S.length := by
        have := (List.getElem?_eq_some_iff.mp e).1
        simp at this; omega
      subst hl'
      have e2 : o = ob := by simpa using e
      subst e2
      exact ⟨a, h, by rw [List.getElem?_append_right (by rw [hlen]; exact Nat.le_refl _), hlen]; simp, q2, RO.cut (n := S.length) get1 o h bo q3⟩
theorem CovE.less {v v2 : Fv} {S : Store} (le : lessV v2 v) : CovE n v S v2 S := fun F H t re rs => ⟨F, List.take_prefix _ _, ⟨by rw [le.1]; exact re.len, fun i d h => re.at_ i d (le.2 i d h)⟩, rs⟩
end
end DM

namespace DM
open PySem PySem.Spec PyProof.Rows L2
theorem belAll_append {n : Nat} : ∀ {xs ys : List D}, bel.belAll n xs = true → bel.belAll n ys = true → bel.belAll n (xs ++ ys) = true
  | [], _, _, h => h
  | x :: xs, ys, h, g => by
    have h' : (bel n x && bel.belAll n xs) = true := h
    rw [Bool.and_eq_true] at h'
    show (bel n x && bel.belAll n (xs ++ ys)) = true
    rw [h'.1, belAll_append h'.2 g]; rfl
mutual
theorem bel_mono {n m : Nat} (hm : n ≤ m) : ∀ (d : D), bel n d = true → bel m d = true
  | .non, h => h
  | .bl _, h => h
  | .int _, h => h
  | .str _, h => h
  | .ty _, h => h
  | .ref _, h => h
  | .tup xs, h => belAll_mono hm xs h
  | .loc l, h => decide_eq_true (Nat.lt_of_lt_of_le (of_decide_eq_true h) hm)
  | .scr _, h => h
theorem belAll_mono {n m : Nat} (hm : n ≤ m) : ∀ (xs : List D), bel.belAll n xs = true → bel.belAll m xs = true
  | [], h => h
  | x :: xs, h => by
    have h' : (bel n x && bel.belAll n xs) = true := h
    rw [Bool.and_eq_true] at h'
    show (bel m x && bel.belAll m xs) = true
    rw [bel_mono hm x h'.1, belAll_mono hm xs h'.2]; rfl
end
theorem belK_mono {κ : Type} {n m : Nat} (hm : n ≤ m) : ∀ (xs : List (κ × D)), belK n xs = true → belK m xs = true
  | [], h => h
  | x :: xs, h => by
    have h' : (bel n x.2 && belK n xs) = true := h
    rw [Bool.and_eq_true] at h'
    show (bel m x.2 && belK m xs) = true
    rw [bel_mono hm x.2 h'.1, belK_mono hm xs h'.2]; rfl
theorem belO_mono {n m : Nat} (hm : n ≤ m) : ∀ (o : Ob), belO n o = true → belO m o = true
  | .lst xs, h => belAll_mono hm xs h
  | .dK xs, h => belK_mono hm xs h
  | .dT xs, h => belK_mono hm xs h
  | .ins _ xs, h => belK_mono hm xs h
  | .frz _ u, h => belO_mono hm u h
theorem belS_mono {n m : Nat} {S : Store} (hm : n ≤ m) (h : belS n S) : belS m S := fun l o e => belO_mono hm o (h l o e)
theorem belS_snoc {n : Nat} {S : Store} {o : Ob} (h : belS n S) (ho : belO n o = true) : belS n (S ++ [o]) := fun l u e => by
  by_cases hl : l < S.length
  · rw [List.getElem?_append_left hl] at e
    exact h l u e
  · rw [List.getElem?_append_right (by omega)] at e
    have := (List.getElem?_eq_some_iff.mp e).1
    have hz : l - S.length = 0 := by simp at this; omega
    rw [hz] at e
    have : o = u := by simpa using e
    subst this
    exact ho
theorem belS_append {n : Nat} {S G : Store} (h : belS n S) (g : belS n G) : belS n (S ++ G) := fun l u e => by
  by_cases hl : l < S.length
  · rw [List.getElem?_append_left hl] at e
    exact h l u e
  · rw [List.getElem?_append_right (by omega)] at e
    exact g _ u e
theorem belS_set {n l : Nat} {S : Store} {o : Ob} (h : belS n S) (ho : belO n o = true) : belS n (S.set l o) := fun j u e => by
  by_cases hj : l = j
  · subst hj
    have hl := (List.getElem?_eq_some_iff.mp e).1
    rw [List.getElem?_set_self (by simpa using hl)] at e
    cases e
    exact ho
  · rw [List.getElem?_set_ne hj] at e
    exact h j u e
theorem belS_nil {n : Nat} : belS n [] := fun l o e => by simp at e
theorem belS_cons {n : Nat} {S : Store} {o : Ob} (ho : belO n o = true) (h : belS n S) : belS n (o :: S) := fun l u e => by
  cases l with
  | zero => have : o = u := by simpa using e
            subst this; exact ho
  | succ l => exact h l u (by simpa using e)
/-- a comprehension whose elements are reckoned from the items alone, the store as it was -/
theorem lc_pure {X : Cx} {scope : Scope} {ifs : List Expr} {elt : Expr} {up : D → Fv → Option Fv} {vs : List Nat} {v : Fv} {n : Nat} {c : Src} {S1 : Store} {Q : D → Store → Prop} (f : D → Option D) (hb : belS S1.length S1) (hz : c.items.length ≤ 100000)
    (hok : ∀ acc, c.ok (S1 ++ [.lst acc])) (turn : ∀ (i : Nat) (d : D) (acc : List D), c.items[i]? = some d → ∃ v3, up d (wipeD v vs) = some v3 ∧ ∀ Y, BlkOf X scope Y → WTs Y ifs v3 (S1 ++ [.lst acc]) fun b S3 => (∃ G, S3 = S1 ++ [.lst acc] ++ G) ∧
      (b = true → ∀ Z, BlkOf X scope Z → WE Z elt v3 S3 fun y S4 => (∃ G, S4 = S1 ++ [.lst acc] ++ G) ∧ bel S1.length y = true ∧ f d = some y) ∧ (b = false → f d = none))
    (h : Q (.loc S1.length) (S1 ++ [.lst (c.items.filterMap f)])) : LcTurns X scope ifs elt up vs v n c S1 Q := by
  have ft : ∀ (i : Nat) (d : D), c.items[i]? = some d → (c.items.take (i + 1)).filterMap f = (c.items.take i).filterMap f ++ (f d).toList := fun i d hd => by
    have : c.items.take (i + 1) = c.items.take i ++ [d] := by rw [List.take_add_one, hd]; rfl
    rw [this, List.filterMap_append]
    cases e : f d <;> simp [List.filterMap, e]
  refine ⟨fun i acc S2 => S2 = S1 ∧ acc = (c.items.take i).filterMap f ∧ bel.belAll S1.length acc = true, ⟨rfl, by simp, rfl⟩, ?_, ?_, ?_⟩
  · rintro i acc S2 hi ⟨rfl, _⟩
    exact ⟨rfl, hok acc⟩
  · rintro i d acc S2 hd ⟨rfl, ha, hba⟩
    obtain ⟨v3, h1, h2⟩ := turn i d acc hd
    have cl : belS (S2.length + 1) (S2 ++ [.lst acc]) := belS_snoc (belS_mono (Nat.le_succ _) hb) (belAll_mono (Nat.le_succ _) acc hba)
    have hlen : acc.length ≤ i := by
      rw [ha]
      exact Nat.le_trans (List.length_filterMap_le _ _) (by simp; omega)
    have hi : i < c.items.length := (List.getElem?_eq_some_iff.mp hd).1
    refine ⟨v3, h1, fun Y hY => ?_⟩
    have w := h2 Y hY
    have imp : ∀ b S3, ((∃ G, S3 = S2 ++ [.lst acc] ++ G) ∧ (b = true → ∀ Z, BlkOf X scope Z → WE Z elt v3 S3 fun y S4 => (∃ G, S4 = S2 ++ [.lst acc] ++ G) ∧ bel S2.length y = true ∧ f d = some y) ∧ (b = false → f d = none)) →
        (b = true → ∀ Z, BlkOf X scope Z → WE Z elt v3 S3 fun y S4 => WkD (S2.length + 1) y S4 fun y2 S5 => acc.length < sizeLine ∧ ∃ S6, S5 = S6 ++ [.lst acc] ∧ (S6 = S2 ∧ acc ++ [y2] = (c.items.take (i + 1)).filterMap f ∧ bel.belAll S2.length (acc ++ [y2]) = true)) ∧
        (b = false → ∃ S5, CovS (S2.length + 1) S3 S5 ∧ ∃ S6, S5 = S6 ++ [.lst acc] ∧ (S6 = S2 ∧ acc = (c.items.take (i + 1)).filterMap f ∧ bel.belAll S2.length acc = true)) := by
      rintro b S3 ⟨⟨G0, rfl⟩, ht, hf⟩
      refine ⟨fun hb1 Z hZ => ?_, fun hb0 => ?_⟩
      · refine (ht hb1 Z hZ).mono fun y S4 ⟨⟨G, e⟩, by', fy⟩ => ?_
        subst e
        have hl : (S2 ++ [Ob.lst acc]).length = S2.length + 1 := by simp
        refine ⟨y, S2 ++ [.lst acc], ?_, Nat.lt_of_lt_of_le (show acc.length < 100001 by omega) (by decide), S2, rfl, rfl, ?_, belAll_append hba (by show (bel S2.length y && true) = true; rw [by']; rfl)⟩
        · have := CovD.drop (S := S2 ++ [.lst acc]) (G := G) (d := y) (by rw [hl]; exact cl) (by rw [hl]; exact bel_mono (Nat.le_succ _) y by')
          rw [hl] at this
          exact this
        · rw [ft i d hd, fy, ha]; rfl
      · have hl : (S2 ++ [Ob.lst acc]).length = S2.length + 1 := by simp
        refine ⟨S2 ++ [.lst acc], CovS.drop (by rw [hl]; exact Nat.le_refl _) (by rw [hl]; exact cl), S2, rfl, rfl, ?_, hba⟩
        rw [ft i d hd, hf hb0, ha]; simp
    match ifs, w with
    | [], w => exact imp true _ w
    | [c'], w => exact fun F t H Q' re rs k => w F t H Q' re rs fun F' b H' S' p kk rs' q => k F' b H' S' p kk rs' (imp b S' q)
  · rintro acc S2 ⟨rfl, ha, _⟩
    rw [ha, List.take_length]
    exact h
end DM

namespace DM
open PySem PySem.Spec PyProof.Rows L2
/-! ### built-ins that no name of the module hides -/
structure Bt (mg : Str → Option Value) : Prop where
  len : mg "len" = none
  range : mg "range" = none
  isinstance : mg "isinstance" = none
  sorted : mg "sorted" = none
  max : mg "max" = none
  min : mg "min" = none
  list : mg "list" = none
  tuple : mg "tuple" = none
  dict : mg "dict" = none
  int : mg "int" = none
  str : mg "str" = none
  bool : mg "bool" = none
  enumerate : mg "enumerate" = none
  reversed : mg "reversed" = none
  sum : mg "sum" = none
  set : mg "set" = none
/-- a datum whose own type is plain -/
def kn : D → Bool
  | .non | .bl _ | .int _ | .str _ | .tup _ => true
  | _ => false
def tyN : D → String
  | .non => "NoneType" | .bl _ => "bool" | .int _ => "int" | .str _ => "str" | .tup _ => "tuple" | _ => ""
theorem kn_ty {x : D} (h : kn x = true) (S : Store) : tyName x S = some (tyN x) := by
  cases x <;> first | rfl | cases h
/-- whether a datum is a number within bounds -/
def numOk (x : D) (lo hi : Int) : Bool := match x with
  | .int i => decide (lo ≤ i) && decide (i ≤ hi)
  | _ => false
def marksOk (x : D) (least : Int) : Bool := match x with
  | .tup xs => decide (xs.length = 3) && xs.all fun y => numOk y least 9
  | _ => false
/-- data of numbers, None and tuples of such, so deep at the most -/
def pu : Nat → D → Bool
  | 0, .tup _ => false
  | n + 1, .tup xs => decide (xs.length ≤ 100000) && xs.all (pu n)
  | _, .non => true
  | _, .int _ => true
  | _, _ => false
theorem pu_kn {n : Nat} {x : D} (h : pu n x = true) : kn x = true := by
  cases n <;> cases x <;> first | rfl | (simp [pu] at h)
theorem pu_tup {n : Nat} {xs : List D} (h : pu n (.tup xs) = true) : ∃ m, n = m + 1 ∧ xs.length ≤ 100000 ∧ ∀ x ∈ xs, pu m x = true := by
  cases n with
  | zero => simp [pu] at h
  | succ m =>
    have h' : (decide (xs.length ≤ 100000) && xs.all (pu m)) = true := h
    rw [Bool.and_eq_true, decide_eq_true_eq, List.all_eq_true] at h'
    exact ⟨m, rfl, h'⟩
theorem pu_mono : ∀ {n m : Nat} {x : D}, n ≤ m → pu n x = true → pu m x = true
  | 0, 0, _, _, h => h
  | 0, m + 1, x, _, h => by cases x <;> first | rfl | (simp [pu] at h; done)
  | n + 1, 0, _, hm, _ => absurd hm (Nat.not_succ_le_zero n)
  | n + 1, m + 1, x, hm, h => by
    cases x with
    | tup xs =>
      obtain ⟨k, e, h1, h2⟩ := pu_tup h
      cases e
      show (decide (xs.length ≤ 100000) && xs.all (pu m)) = true
      rw [decide_eq_true h1, List.all_eq_true.mpr fun x hx => pu_mono (Nat.le_of_succ_le_succ hm) (h2 x hx)]; rfl
    | non => rfl
    | int _ => rfl
    | _ => simp [pu] at h
mutual
def toP : D → PyData
  | .non => .none
  | .bl b => .bool b
  | .int i => .int i
  | .str x => .str x
  | .tup xs => .tuple (toPs xs)
  | _ => .none
def toPs : List D → List PyData
  | [] => []
  | x :: xs => toP x :: toPs xs
end
theorem pu_pd (S : Store) : ∀ (n : Nat) (x : D), pu n x = true → PD S x (toP x) ∧ (toP x).canLay0 = true ∧ (toP x).depth ≤ n
  | n, .non, _ => ⟨.non, rfl, Nat.zero_le _⟩
  | n, .int i, _ => ⟨.int i, rfl, Nat.zero_le _⟩
  | n, .tup xs, h => by
    obtain ⟨m, e, h1, h2⟩ := pu_tup h
    subst e
    have all : ∀ ys : List D, (∀ x ∈ ys, pu m x = true) → PDs S ys (toPs ys) ∧ PyData.canLayAll0 (toPs ys) = true ∧ PyData.depthAll (toPs ys) ≤ m := by
      intro ys
      induction ys with
      | nil => intro _; exact ⟨.nil, rfl, Nat.zero_le _⟩
      | cons y ys ih =>
        intro hy
        obtain ⟨a1, a2, a3⟩ := pu_pd S m y (hy y List.mem_cons_self)
        obtain ⟨b1, b2, b3⟩ := ih fun x hx => hy x (List.mem_cons_of_mem _ hx)
        refine ⟨.cons a1 b1, ?_, ?_⟩
        · show ((toP y).canLay0 && PyData.canLayAll0 (toPs ys)) = true
          rw [a2, b2]; rfl
        · show max (toP y).depth (PyData.depthAll (toPs ys)) ≤ m
          omega
    obtain ⟨a, b, c⟩ := all xs h2
    exact ⟨.tup a, b, Nat.succ_le_succ c⟩
  | 0, .bl _, h => by simp [pu] at h
  | n + 1, .bl _, h => by simp [pu] at h
  | 0, .str _, h => by simp [pu] at h
  | n + 1, .str _, h => by simp [pu] at h
  | 0, .ty _, h => by simp [pu] at h
  | n + 1, .ty _, h => by simp [pu] at h
  | 0, .ref _, h => by simp [pu] at h
  | n + 1, .ref _, h => by simp [pu] at h
  | 0, .loc _, h => by simp [pu] at h
  | n + 1, .loc _, h => by simp [pu] at h
  | 0, .scr _, h => by simp [pu] at h
  | n + 1, .scr _, h => by simp [pu] at h
theorem pus_pd (S : Store) {n : Nat} : ∀ (ys : List D), (∀ x ∈ ys, pu n x = true) → PDs S ys (toPs ys) ∧ PyData.canLayAll0 (toPs ys) = true ∧ PyData.depthAll (toPs ys) ≤ n
  | [], _ => ⟨.nil, rfl, Nat.zero_le _⟩
  | y :: ys, hy => by
    obtain ⟨a1, a2, a3⟩ := pu_pd S n y (hy y List.mem_cons_self)
    obtain ⟨b1, b2, b3⟩ := pus_pd S ys fun x hx => hy x (List.mem_cons_of_mem _ hx)
    refine ⟨.cons a1 b1, ?_, ?_⟩
    · show ((toP y).canLay0 && PyData.canLayAll0 (toPs ys)) = true
      rw [a2, b2]; rfl
    · show max (toP y).depth (PyData.depthAll (toPs ys)) ≤ n
      omega
/-- == on such data is being the same -/
theorem pu_eqv : ∀ (n : Nat) (x y : D), pu n x = true → pu n y = true → PyData.eqv (toP x) (toP y) = decide (x = y)
  | n, .non, y, _, h => by cases n <;> cases y <;> first | (simp [pu] at h; done) | simp [toP, PyData.eqv]
  | n, .int i, y, _, h => by cases n <;> cases y <;> first | (simp [pu] at h; done) | simp [toP, PyData.eqv] <;> rfl
  | 0, .tup xs, y, h, _ => by simp [pu] at h
  | n + 1, .tup xs, y, h, g => by
    cases y with
    | tup ys =>
      obtain ⟨m, e, _, h2⟩ := pu_tup h
      cases e
      obtain ⟨m', e', _, g2⟩ := pu_tup g
      cases e'
      have all : ∀ (xs ys : List D), (∀ x ∈ xs, pu n x = true) → (∀ x ∈ ys, pu n x = true) → PyData.eqvAll (toPs xs) (toPs ys) = decide (xs = ys) := by
        intro xs
        induction xs with
        | nil => intro ys _ _; cases ys <;> simp [toPs, PyData.eqvAll]
        | cons x xs ih =>
          intro ys hx hy
          cases ys with
          | nil => simp [toPs, PyData.eqvAll]
          | cons y ys =>
            have e1 := pu_eqv n x y (hx x List.mem_cons_self) (hy y List.mem_cons_self)
            have e2 := ih ys (fun z hz => hx z (List.mem_cons_of_mem _ hz)) (fun z hz => hy z (List.mem_cons_of_mem _ hz))
            show (PyData.eqv (toP x) (toP y) && PyData.eqvAll (toPs xs) (toPs ys)) = _
            rw [e1, e2]
            by_cases h1 : x = y <;> by_cases h2 : xs = ys <;> simp [h1, h2]
      show PyData.eqvAll (toPs xs) (toPs ys) = _
      rw [all xs ys h2 g2]
      simp
    | non => simp [toP, PyData.eqv]
    | int _ => simp [toP, PyData.eqv]
    | _ => simp [pu] at g
  | 0, .bl _, _, h, _ => by simp [pu] at h
  | n + 1, .bl _, _, h, _ => by simp [pu] at h
  | 0, .str _, _, h, _ => by simp [pu] at h
  | n + 1, .str _, _, h, _ => by simp [pu] at h
  | 0, .ty _, _, h, _ => by simp [pu] at h
  | n + 1, .ty _, _, h, _ => by simp [pu] at h
  | 0, .ref _, _, h, _ => by simp [pu] at h
  | n + 1, .ref _, _, h, _ => by simp [pu] at h
  | 0, .loc _, _, h, _ => by simp [pu] at h
  | n + 1, .loc _, _, h, _ => by simp [pu] at h
  | 0, .scr _, _, h, _ => by simp [pu] at h
  | n + 1, .scr _, _, h, _ => by simp [pu] at h
theorem pus_eqv {n : Nat} : ∀ (xs ys : List D), (∀ x ∈ xs, pu n x = true) → (∀ x ∈ ys, pu n x = true) → PyData.eqvAll (toPs xs) (toPs ys) = decide (xs = ys)
  | [], ys, _, _ => by cases ys <;> simp [toPs, PyData.eqvAll]
  | x :: xs, [], _, _ => by simp [toPs, PyData.eqvAll]
  | x :: xs, y :: ys, hx, hy => by
    have e1 := pu_eqv n x y (hx x List.mem_cons_self) (hy y List.mem_cons_self)
    have e2 := pus_eqv xs ys (fun z hz => hx z (List.mem_cons_of_mem _ hz)) (fun z hz => hy z (List.mem_cons_of_mem _ hz))
    show (PyData.eqv (toP x) (toP y) && PyData.eqvAll (toPs xs) (toPs ys)) = _
    rw [e1, e2]
    by_cases h1 : x = y <;> by_cases h2 : xs = ys <;> simp [h1, h2]
theorem shaped_of {p : PyData} (h1 : p.canLay0 = true) (h2 : p.depth ≤ 64) : SeqAt.shaped p = true := by
  unfold SeqAt.shaped
  rw [h1, decide_eq_true h2]; rfl
section
variable {X : Cx} {S : Store} {Q : D → Store → Prop}
theorem BW.eqP {x y : D} (hx : pu 60 x = true) (hy : pu 60 y = true) (hu : X.A.units + 64 < cLine) (h : Q (.bl (decide (x = y))) S) : BW X (compareOp .Eq) x y S Q := by
  obtain ⟨a1, a2, a3⟩ := pu_pd S 60 x hx
  obtain ⟨b1, b2, b3⟩ := pu_pd S 60 y hy
  refine BW.eqD a1 b1 (shaped_of a2 (by omega)) (shaped_of b2 (by omega)) hu ?_
  rw [pu_eqv 60 x y hx hy]; exact h
theorem BW.neP {x y : D} (hx : pu 60 x = true) (hy : pu 60 y = true) (hu : X.A.units + 64 < cLine) (h : Q (.bl (!decide (x = y))) S) : BW X (compareOp .NotEq) x y S Q := by
  obtain ⟨a1, a2, a3⟩ := pu_pd S 60 x hx
  obtain ⟨b1, b2, b3⟩ := pu_pd S 60 y hy
  refine BW.neD a1 b1 (shaped_of a2 (by omega)) (shaped_of b2 (by omega)) hu ?_
  rw [pu_eqv 60 x y hx hy]; exact h
theorem BW.eqL {l m : Nat} {xs ys : List D} (hl : S[l]? = some (.lst xs)) (hm : S[m]? = some (.lst ys)) (hx : ∀ x ∈ xs, pu 60 x = true) (hy : ∀ x ∈ ys, pu 60 x = true) (hu : X.A.units + 64 < cLine) (h : Q (.bl (decide (xs = ys))) S) : BW X (compareOp .Eq) (.loc l) (.loc m) S Q := by
  obtain ⟨a1, a2, a3⟩ := pus_pd S xs hx
  obtain ⟨b1, b2, b3⟩ := pus_pd S ys hy
  refine BW.eqD (.lst hl a1) (.lst hm b1) (shaped_of a2 (by show _ + 1 ≤ 64; omega)) (shaped_of b2 (by show _ + 1 ≤ 64; omega)) hu ?_
  show Q (.bl (PyData.eqvAll (toPs xs) (toPs ys))) S
  rw [pus_eqv xs ys hx hy]; exact h
theorem BW.neL {l m : Nat} {xs ys : List D} (hl : S[l]? = some (.lst xs)) (hm : S[m]? = some (.lst ys)) (hx : ∀ x ∈ xs, pu 60 x = true) (hy : ∀ x ∈ ys, pu 60 x = true) (hu : X.A.units + 64 < cLine) (h : Q (.bl (!decide (xs = ys))) S) : BW X (compareOp .NotEq) (.loc l) (.loc m) S Q := by
  obtain ⟨a1, a2, a3⟩ := pus_pd S xs hx
  obtain ⟨b1, b2, b3⟩ := pus_pd S ys hy
  refine BW.neD (.lst hl a1) (.lst hm b1) (shaped_of a2 (by show _ + 1 ≤ 64; omega)) (shaped_of b2 (by show _ + 1 ≤ 64; omega)) hu ?_
  show Q (.bl (!PyData.eqvAll (toPs xs) (toPs ys))) S
  rw [pus_eqv xs ys hx hy]; exact h
end
/-- what a call leaves of the room for == -/
theorem hu_of64 {X : Cx} {k : Nat} (hr : Room k X.A) : X.A.units + 64 < cLine := hr.units
theorem at_mid {S G : Store} {o : Ob} : (S ++ o :: G)[S.length]? = some o := by simp
theorem at_two {S G : Store} {o u : Ob} : (S ++ o :: u :: G)[S.length + 1]? = some u := by
  rw [List.getElem?_append_right (by omega)]; simp
theorem bel_get {n : Nat} : ∀ {xs : List D} {i : Nat} {d : D}, bel.belAll n xs = true → xs[i]? = some d → bel n d = true
  | [], _, _, _, h => by simp at h
  | x :: xs, 0, d, b, h => by
    have b' : (bel n x && bel.belAll n xs) = true := b
    rw [Bool.and_eq_true] at b'
    have : x = d := by simpa using h
    subst this; exact b'.1
  | x :: xs, i + 1, d, b, h => by
    have b' : (bel n x && bel.belAll n xs) = true := b
    rw [Bool.and_eq_true] at b'
    exact bel_get b'.2 (by simpa using h)
theorem iT {A B : Prop} (h : A) : (true = true → A) ∧ (true = false → B) := ⟨fun _ => h, fun z => (by cases z)⟩
theorem iF {A B : Prop} (h : B) : (false = true → A) ∧ (false = false → B) := ⟨fun z => (by cases z), fun _ => h⟩
theorem pg_blk {X : Cx} {scope : Scope} {i : Nat} {x : Str} {px : Pos} (hN : X.N.Nodup) (hi : X.N[i]? = some x) (h : ∀ Y, BlkOf X scope Y → Loc Y.env.scope x ∧ (Y.fn x = true ∨ Y.env.scope.names.lookup x = some .local)) : ∀ Y, BlkOf X scope Y → PG Y (.Name x px) (gName i) := fun Y hY => by
  have := h Y hY
  obtain ⟨_, _, _, _, _, rfl⟩ := hY
  exact pg_name hN hi this.1 this.2
theorem sz {n : Nat} (h : n ≤ 100000) : n ≤ sizeLine := Nat.le_trans h (by decide)
theorem szl {n : Nat} (h : n < 100000) : n < sizeLine := Nat.lt_of_lt_of_le h (by decide)
theorem kit_non_int : kitB "NoneType" "int" = some false := by decide +kernel
theorem kit_non_bool : kitB "NoneType" "bool" = some false := by decide +kernel
theorem kit_non_str : kitB "NoneType" "str" = some false := by decide +kernel
theorem kit_non_tuple : kitB "NoneType" "tuple" = some false := by decide +kernel
theorem kit_non_list : kitB "NoneType" "list" = some false := by decide +kernel
theorem kit_bl_int : kitB "bool" "int" = some true := by decide +kernel
theorem kit_bl_bool : kitB "bool" "bool" = some true := by decide +kernel
theorem kit_bl_str : kitB "bool" "str" = some false := by decide +kernel
theorem kit_bl_tuple : kitB "bool" "tuple" = some false := by decide +kernel
theorem kit_bl_list : kitB "bool" "list" = some false := by decide +kernel
theorem kit_int_int : kitB "int" "int" = some true := by decide +kernel
theorem kit_int_bool : kitB "int" "bool" = some false := by decide +kernel
theorem kit_int_str : kitB "int" "str" = some false := by decide +kernel
theorem kit_int_tuple : kitB "int" "tuple" = some false := by decide +kernel
theorem kit_int_list : kitB "int" "list" = some false := by decide +kernel
theorem kit_str_int : kitB "str" "int" = some false := by decide +kernel
theorem kit_str_bool : kitB "str" "bool" = some false := by decide +kernel
theorem kit_str_str : kitB "str" "str" = some true := by decide +kernel
theorem kit_str_tuple : kitB "str" "tuple" = some false := by decide +kernel
theorem kit_str_list : kitB "str" "list" = some false := by decide +kernel
theorem kit_tup_int : kitB "tuple" "int" = some false := by decide +kernel
theorem kit_tup_bool : kitB "tuple" "bool" = some false := by decide +kernel
theorem kit_tup_str : kitB "tuple" "str" = some false := by decide +kernel
theorem kit_tup_tuple : kitB "tuple" "tuple" = some true := by decide +kernel
theorem kit_tup_list : kitB "tuple" "list" = some false := by decide +kernel
theorem kit_lst_int : kitB "list" "int" = some false := by decide +kernel
theorem kit_lst_bool : kitB "list" "bool" = some false := by decide +kernel
theorem kit_lst_str : kitB "list" "str" = some false := by decide +kernel
theorem kit_lst_tuple : kitB "list" "tuple" = some false := by decide +kernel
theorem kit_lst_list : kitB "list" "list" = some true := by decide +kernel
/-- forgetting the frame's slots -/
theorem lessV.refl (v : Fv) : lessV v v := ⟨rfl, fun _ _ h => h⟩
theorem lessV.drop (i : Nat) {v v2 : Fv} (h : lessV v2 v) : lessV (v2.set i none) v := ⟨by simp [h.1], fun j d e => by
  by_cases hj : i = j
  · subst hj
    by_cases hi : i < v2.length
    · rw [List.getElem?_set_self hi] at e; cases e
    · rw [List.getElem?_eq_none (by simpa using hi)] at e; cases e
  · rw [List.getElem?_set_ne hj] at e
    exact h.2 j d e⟩
end DM

namespace DM
open PySem PySem.Spec PyProof.Rows L2
/-! ### marks, claims, as data and as such -/
def eM (m : List Int) : D := .tup (m.map .int)
def eC (c : List Int × Int) : D := .tup [eM c.1, .int c.2]
def eCs (cs : List (List Int × Int)) : D := .tup (cs.map eC)
def OkM (lo : Int) (m : List Int) : Prop := m.length = 3 ∧ ∀ x ∈ m, lo ≤ x ∧ x ≤ 9
def OkC (c : List Int × Int) : Prop := OkM (-1) c.1 ∧ 0 ≤ c.2 ∧ c.2 ≤ 9
def OkCs (cs : List (List Int × Int)) : Prop := cs.length ≤ 6 ∧ ∀ c ∈ cs, OkC c
def claimOk (x : D) : Bool := match x with
  | .tup [a, b] => marksOk a (-1) && numOk b 0 9
  | _ => false
theorem marksOk_e {lo : Int} {m : List Int} (h : OkM lo m) : marksOk (eM m) lo = true := by
  show (decide ((m.map D.int).length = 3) && (m.map D.int).all fun y => numOk y lo 9) = true
  rw [List.length_map, decide_eq_true h.1, Bool.true_and, List.all_eq_true]
  intro y hy
  obtain ⟨x, hx, rfl⟩ := List.mem_map.mp hy
  show (decide (lo ≤ x) && decide (x ≤ 9)) = true
  rw [decide_eq_true (h.2 x hx).1, decide_eq_true (h.2 x hx).2]; rfl
theorem numOk_e {x lo hi : Int} (h : lo ≤ x ∧ x ≤ hi) : numOk (.int x) lo hi = true := by
  show (decide (lo ≤ x) && decide (x ≤ hi)) = true
  rw [decide_eq_true h.1, decide_eq_true h.2]; rfl
theorem claimOk_e {c : List Int × Int} (h : OkC c) : claimOk (eC c) = true := by
  show (marksOk (eM c.1) (-1) && numOk (.int c.2) 0 9) = true
  rw [marksOk_e h.1, numOk_e h.2]; rfl
theorem pu_eM {n : Nat} {m : List Int} (h : m.length ≤ 100000) : pu (n + 1) (eM m) = true := by
  show (decide ((m.map D.int).length ≤ 100000) && (m.map D.int).all (pu n)) = true
  rw [List.length_map, decide_eq_true h, Bool.true_and, List.all_eq_true]
  intro y hy
  obtain ⟨x, hx, rfl⟩ := List.mem_map.mp hy
  cases n <;> rfl
theorem pu_int {n : Nat} {i : Int} : pu n (.int i) = true := by cases n <;> rfl
theorem pu_eC {n : Nat} {c : List Int × Int} (h : c.1.length ≤ 100000) : pu (n + 2) (eC c) = true := by
  show (decide (2 ≤ 100000) && (pu (n + 1) (eM c.1) && (pu (n + 1) (.int c.2) && true))) = true
  rw [pu_eM h, pu_int]; rfl
theorem pu_eCs {n : Nat} {cs : List (List Int × Int)} (h : OkCs cs) : pu (n + 3) (eCs cs) = true := by
  show (decide ((cs.map eC).length ≤ 100000) && (cs.map eC).all (pu (n + 2))) = true
  rw [List.length_map, decide_eq_true (by have := h.1; omega), Bool.true_and, List.all_eq_true]
  intro y hy
  obtain ⟨c, hc, rfl⟩ := List.mem_map.mp hy
  exact pu_eC (by have := (h.2 c hc).1.1; omega)
theorem belAll_map {α : Type} {n : Nat} {e : α → D} (h : ∀ a, bel n (e a) = true) : ∀ l : List α, bel.belAll n (l.map e) = true
  | [] => rfl
  | a :: l => by
    show (bel n (e a) && bel.belAll n (l.map e)) = true
    rw [h a, belAll_map h l]; rfl
theorem bel_eM {n : Nat} (m : List Int) : bel n (eM m) = true := belAll_map (fun _ => rfl) m
theorem bel_eC {n : Nat} (c : List Int × Int) : bel n (eC c) = true := by
  show (bel n (eM c.1) && (bel n (.int c.2) && true)) = true
  rw [bel_eM]; rfl
theorem bel_eCs {n : Nat} (c : List (List Int × Int)) : bel n (eCs c) = true := belAll_map bel_eC c
theorem belInts {n : Nat} (l : List Int) : bel.belAll n (l.map D.int) = true := belAll_map (fun _ => rfl) l
/-! ### how much claims fit: as the program reckons it -/
def toldL (w : List Int) (n : Nat) : List Nat := (List.range n).filter fun k => decide (0 ≤ w.getD k 0)
def fit1 (m : List Int) (c : List Int × Int) : Option Int :=
  if ((toldL c.1 m.length).filter fun k => !decide (c.1.getD k 0 = m.getD k 0)) = [] then some (10 * c.2 + (toldL c.1 m.length).length) else none
def fitOf (cs : List (List Int × Int)) (m : List Int) : Option Int := (cs.filterMap (fit1 m)).max?
theorem rngD0 (n : Nat) : rngD 0 n = (List.range n).map fun (k : Nat) => D.int (k : Int) := by
  unfold rngD
  exact List.map_congr_left fun k _ => by rw [Int.zero_add]
theorem max_is {l : List Int} {m : Int} (h : m ∈ l) (g : ∀ y ∈ l, y ≤ m) : l.max? = some m := (List.max?_eq_some_iff).mpr ⟨h, g⟩
theorem map_getD {l : List Int} {k : Nat} (h : k < l.length) : (l.map D.int)[k]? = some (.int (l.getD k 0)) := by
  rw [List.getElem?_map, List.getElem?_eq_getElem h]
  simp [List.getD, List.getElem?_eq_getElem h]
theorem at_ints {l : List Int} {k : Nat} (h : k < l.length) : atI (l.map D.int) (k : Int) = some (.int (l.getD k 0)) := atI_nat (map_getD h)
theorem list_fm {l : List Nat} {p : Nat → Bool} {f : D → Option D} (hf : ∀ k ∈ l, f (.int (k : Int)) = if p k then some (.int (k : Int)) else none) : (l.map fun (k : Nat) => D.int (k : Int)).filterMap f = (l.filter p).map fun (k : Nat) => D.int (k : Int) := by
  induction l with
  | nil => rfl
  | cons k l ih =>
    have e := hf k List.mem_cons_self
    have ih := ih fun j hj => hf j (List.mem_cons_of_mem _ hj)
    rw [List.map_cons, List.filterMap_cons, e]
    by_cases hp : p k = true
    · simp only [hp, if_true, List.filter_cons, List.map_cons]; rw [ih]
    · simp only [hp, List.filter_cons]; exact ih
theorem range_fm {n : Nat} {p : Nat → Bool} {f : D → Option D} (hf : ∀ k, k < n → f (.int (k : Int)) = if p k then some (.int (k : Int)) else none) : (rngD 0 n).filterMap f = ((List.range n).filter p).map fun (k : Nat) => D.int (k : Int) := by
  rw [rngD0]
  exact list_fm fun k hk => hf k (List.mem_range.mp hk)
def eO (o : Option Int) : D := D.ofO o
end DM

namespace DM
open PySem PySem.Spec PyProof.Rows L2
/-! ### what the laws draw -/
structure Dr where
  m : Int
  cells : List Int
  at_ : Nat
/-- the store of a law: the cells at 0, what is drawn from at 1, the rest -/
def dS (dr : Dr) (R : Store) : Store := .lst (dr.cells.map D.int) :: .lst [.int dr.m, .loc 0, .int dr.at_] :: R
def Dr.pl (dr : Dr) : Nat := dr.at_ % (if 1 < dr.cells.length then dr.cells.length else 1)
def Dr.cell (dr : Dr) : Int := if dr.cells = [] then 0 else dr.cells.getD dr.pl 0
def nx (dr : Dr) (k : Int) : Int × Dr :=
  if 1000000000000000000 ≤ dr.cell then (dr.cell % k, ⟨dr.m, dr.cells.set dr.pl (dr.cell / k), dr.at_⟩)
  else ((dr.m * 48271 + dr.cell * 69621 + 11) % 2147483647 / 7 % k, ⟨(dr.m * 48271 + dr.cell * 69621 + 11) % 2147483647, dr.cells, dr.at_ + 1⟩)
theorem nx_bd (dr : Dr) {k : Int} (h : 0 < k) : 0 ≤ (nx dr k).1 ∧ (nx dr k).1 < k := by
  unfold nx
  split
  · exact ⟨Int.emod_nonneg _ (by omega), Int.emod_lt_of_pos _ h⟩
  · exact ⟨Int.emod_nonneg _ (by omega), Int.emod_lt_of_pos _ h⟩
def mixI (ns : List Int) (seed : Int) : Int := ns.foldl (fun m c => (m * 48271 + c % 2147483629 + 1) % 2147483647) seed
def mixDr (ns : List Int) (seed : Int) : Dr := ⟨mixI ns seed, ns, 0⟩
theorem dS_len (dr : Dr) (R : Store) : (dS dr R).length = R.length + 2 := rfl
theorem bel_dS {n : Nat} {dr dr' : Dr} {R : Store} (h : belS n (dS dr R)) (hn : 0 < n) : belS n (dS dr' R) := by
  refine belS_cons (belInts _) (belS_cons ?_ fun l o e => h (l + 2) o e)
  show (true && (decide (0 < n) && (true && true))) = true
  rw [decide_eq_true hn]; rfl
theorem bel_dR {n : Nat} {dr : Dr} {R : Store} (h : belS n (dS dr R)) : belS n R := fun l o e => h (l + 2) o e
theorem cov_dS {dr dr' : Dr} {R G : Store} {d : D} (b : belS (dS dr R).length (dS dr R)) (bd : bel (dS dr R).length d = true) : CovD (dS dr R).length d (dS dr' R ++ G) d (dS dr' R) := by
  have hb : belS (dS dr' R).length (dS dr' R) := bel_dS (dr := dr) b (by show 0 < R.length + 2; omega)
  exact CovD.drop (S := dS dr' R) hb bd
end DM

namespace DM
open PySem PySem.Spec PyProof.Rows L2
theorem bel_loc {n l : Nat} (h : l < n) : bel n (.loc l) = true := decide_eq_true h
theorem lessN : lessV [] [] := ⟨rfl, fun _ _ h => h⟩
theorem lessK {x : Option D} {v2 v : Fv} (h : lessV v2 v) : lessV (x :: v2) (x :: v) := ⟨by simp [h.1], fun i d e => by
  cases i with
  | zero => exact e
  | succ i => exact h.2 i d (by simpa using e)⟩
theorem lessS {x : Option D} {v2 v : Fv} (h : lessV v2 v) : lessV (none :: v2) (x :: v) := ⟨by simp [h.1], fun i d e => by
  cases i with
  | zero => simp at e
  | succ i => exact h.2 i d (by simpa using e)⟩
theorem belN {n : Nat} : belV n [] := fun i d e => by simp at e
theorem belY {n : Nat} {d : D} {v : Fv} (hd : bel n d = true) (h : belV n v) : belV n (some d :: v) := fun i e q => by
  cases i with
  | zero => have : d = e := by simpa using q
            subst this; exact hd
  | succ i => exact h i e (by simpa using q)
theorem belZ {n : Nat} {v : Fv} (h : belV n v) : belV n (none :: v) := fun i e q => by
  cases i with
  | zero => simp at q
  | succ i => exact h i e (by simpa using q)
/-! ### drawing one by one -/
def dMap {α β : Type} (f : β → Dr → α × Dr) : List β → Dr → List α × Dr
  | [], dr => ([], dr)
  | b :: bs, dr => ((f b dr).1 :: (dMap f bs (f b dr).2).1, (dMap f bs (f b dr).2).2)
theorem dMap_snoc {α β : Type} (f : β → Dr → α × Dr) : ∀ (bs : List β) (b : β) (dr : Dr), dMap f (bs ++ [b]) dr = ((dMap f bs dr).1 ++ [(f b (dMap f bs dr).2).1], (f b (dMap f bs dr).2).2)
  | [], b, dr => rfl
  | c :: bs, b, dr => by
    show ((f c dr).1 :: (dMap f (bs ++ [b]) (f c dr).2).1, (dMap f (bs ++ [b]) (f c dr).2).2) = _
    rw [dMap_snoc f bs b (f c dr).2]
    rfl
theorem dMap_len {α β : Type} (f : β → Dr → α × Dr) : ∀ (bs : List β) (dr : Dr), (dMap f bs dr).1.length = bs.length
  | [], _ => rfl
  | b :: bs, dr => by
    show (dMap f bs (f b dr).2).1.length + 1 = bs.length + 1
    rw [dMap_len f bs]
theorem dMap_all {α β : Type} {f : β → Dr → α × Dr} {p : α → Prop} : ∀ {bs : List β} {dr : Dr}, (∀ b ∈ bs, ∀ dr, p (f b dr).1) → ∀ a ∈ (dMap f bs dr).1, p a
  | [], _, _, a, ha => by cases ha
  | b :: bs, dr, h, a, ha => by
    rcases List.mem_cons.mp ha with rfl | ha
    · exact h b List.mem_cons_self dr
    · exact dMap_all (fun c hc => h c (List.mem_cons_of_mem _ hc)) a ha
theorem take_snoc {α : Type} {l : List α} {i : Nat} {x : α} (h : l[i]? = some x) : l.take (i + 1) = l.take i ++ [x] := by rw [List.take_add_one, h]; rfl
theorem map_at {α β : Type} {e : α → β} {l : List α} {i : Nat} {d : β} (h : (l.map e)[i]? = some d) : ∃ c, l[i]? = some c ∧ d = e c := by
  rw [List.getElem?_map] at h
  cases q : l[i]? with
  | none => rw [q] at h; cases h
  | some c => rw [q] at h; exact ⟨c, rfl, (Option.some.inj h).symm⟩
theorem at_R {R G : Store} {o : Ob} : (R ++ o :: G)[R.length]? = some o := by simp
theorem set_R {R G : Store} {o u : Ob} : (R ++ o :: G).set R.length u = R ++ u :: G := by
  rw [List.set_append_right _ _ (Nat.le_refl _)]; simp
theorem at_dR {dr : Dr} {R G : Store} {o : Ob} : (dS dr (R ++ o :: G))[R.length + 2]? = some o := at_R
theorem set_dR {dr : Dr} {R G : Store} {o u : Ob} : (dS dr (R ++ o :: G)).set (R.length + 2) u = dS dr (R ++ u :: G) := by
  show _ :: _ :: (R ++ o :: G).set R.length u = _
  rw [set_R]; rfl
/-- a comprehension whose elements draw -/
theorem lc_draw {X : Cx} {scope : Scope} {elt : Expr} {up : D → Fv → Option Fv} {vs : List Nat} {v : Fv} {n : Nat} {ok : Store → Prop} {dr : Dr} {R : Store} {Q : D → Store → Prop} {α β : Type} (encB : β → D) (enc : α → D) (f : β → Dr → α × Dr) (bs : List β)
    (hbel : ∀ a m, bel m (enc a) = true) (hb : belS (dS dr R).length (dS dr R)) (hz : bs.length ≤ 100000) (hok : ∀ dr acc, ok (dS dr R ++ [.lst acc]))
    (turn : ∀ b dr' acc, b ∈ bs → ∃ v3, up (encB b) (wipeD v vs) = some v3 ∧ ∀ Y, BlkOf X scope Y → WE Y elt v3 (dS dr' R ++ [.lst acc]) fun y S4 => y = enc (f b dr').1 ∧ ∃ G, S4 = dS (f b dr').2 R ++ [.lst acc] ++ G)
    (h : Q (.loc (dS dr R).length) (dS (dMap f bs dr).2 R ++ [.lst ((dMap f bs dr).1.map enc)])) : LcTurns X scope [] elt up vs v n ⟨bs.map encB, ok⟩ (dS dr R) Q := by
  refine ⟨fun i acc S2 => S2 = dS (dMap f (bs.take i) dr).2 R ∧ acc = (dMap f (bs.take i) dr).1.map enc, ⟨rfl, rfl⟩, ?_, ?_, ?_⟩
  · rintro i acc S2 hi ⟨rfl, rfl⟩
    exact ⟨rfl, hok _ _⟩
  · rintro i d acc S2 hd ⟨rfl, rfl⟩
    obtain ⟨b, hbi, rfl⟩ := map_at hd
    obtain ⟨v3, h1, h2⟩ := turn b (dMap f (bs.take i) dr).2 ((dMap f (bs.take i) dr).1.map enc) (List.mem_of_getElem? hbi)
    have hi : i < bs.length := (List.getElem?_eq_some_iff.mp hbi).1
    refine ⟨v3, h1, fun Y hY => ⟨fun _ Z hZ => ?_, fun z => by cases z⟩⟩
    refine (h2 Z hZ).mono fun y S4 ⟨e1, G, e2⟩ => ?_
    subst e1 e2
    have ts : dMap f (bs.take (i + 1)) dr = ((dMap f (bs.take i) dr).1 ++ [(f b (dMap f (bs.take i) dr).2).1], (f b (dMap f (bs.take i) dr).2).2) := by rw [take_snoc hbi, dMap_snoc]
    refine ⟨enc (f b (dMap f (bs.take i) dr).2).1, dS (f b (dMap f (bs.take i) dr).2).2 R ++ [.lst ((dMap f (bs.take i) dr).1.map enc)], ?_, ?_, dS (f b (dMap f (bs.take i) dr).2).2 R, rfl, ?_, ?_⟩
    · have hl : ∀ dr' : Dr, ∀ acc, (dS dr' R ++ [Ob.lst acc]).length = (dS dr R).length + 1 := fun _ _ => by simp [dS]
      have := CovD.drop (S := dS (f b (dMap f (bs.take i) dr).2).2 R ++ [.lst ((dMap f (bs.take i) dr).1.map enc)]) (G := G) (d := enc (f b (dMap f (bs.take i) dr).2).1) (by
        rw [hl]
        exact belS_snoc (bel_dS (dr := dr) (belS_mono (Nat.le_succ _) hb) (by show 0 < R.length + 2 + 1; omega)) (belAll_map (fun a => hbel a _) _)) (hbel _ _)
      rw [hl] at this
      exact this
    · rw [List.length_map, dMap_len, List.length_take]
      exact szl (by omega)
    · rw [ts]
    · rw [ts]; simp
  · rintro acc S2 ⟨rfl, rfl⟩
    rw [show (Src.items ⟨bs.map encB, ok⟩) = bs.map encB from rfl, List.length_map, List.take_length]
    exact h
/-! ### marks, claims drawn -/
def pick3 (a : Int) : Int := ([2, 3, 10] : List Int).getD a.toNat 0
def dMark (_ : Nat) (dr : Dr) : Int × Dr := nx (nx dr 3).2 (pick3 (nx dr 3).1)
def dMarks (dr : Dr) : List Int × Dr := dMap dMark (List.range 3) dr
def dWant (m : Int) (dr : Dr) : Int × Dr := (if (nx dr 2).1 = 0 then m else -1, (nx dr 2).2)
def dClaim (_ : Nat) (dr : Dr) : (List Int × Int) × Dr :=
  let a := dMarks dr
  let b := dMap dWant a.1 a.2
  let c := nx b.2 2
  let e := nx c.2 (([2, 10] : List Int).getD c.1.toNat 0)
  ((b.1, e.1), e.2)
def dClaims (dr : Dr) : List (List Int × Int) × Dr :=
  let a := nx dr 2
  let b := nx a.2 (([3, 7] : List Int).getD a.1.toNat 0)
  dMap dClaim (List.range b.1.toNat) b.2
theorem pick3_bd {a : Int} (h : 0 ≤ a ∧ a < 3) : 2 ≤ pick3 a ∧ pick3 a ≤ 10 ∧ atI (([2, 3, 10] : List Int).map D.int) a = some (.int (pick3 a)) := by
  have : a = 0 ∨ a = 1 ∨ a = 2 := by omega
  rcases this with rfl | rfl | rfl <;> exact ⟨by decide, by decide, rfl⟩
theorem pick2_bd {a : Int} (x y : Int) (h : 0 ≤ a ∧ a < 2) : (([x, y] : List Int).getD a.toNat 0 = x ∨ ([x, y] : List Int).getD a.toNat 0 = y) ∧ atI (([x, y] : List Int).map D.int) a = some (.int (([x, y] : List Int).getD a.toNat 0)) := by
  have : a = 0 ∨ a = 1 := by omega
  rcases this with rfl | rfl
  · exact ⟨.inl rfl, rfl⟩
  · exact ⟨.inr rfl, rfl⟩
theorem dMarks_ok (dr : Dr) : OkM 0 (dMarks dr).1 := by
  refine ⟨dMap_len _ _ _, fun x hx => ?_⟩
  refine dMap_all (p := fun x => 0 ≤ x ∧ x ≤ 9) (f := dMark) (fun b _ dr => ?_) x hx
  have h1 := nx_bd dr (k := 3) (by decide)
  have h2 := pick3_bd h1
  have h3 := nx_bd (nx dr 3).2 (k := pick3 (nx dr 3).1) (by omega)
  show 0 ≤ (nx (nx dr 3).2 (pick3 (nx dr 3).1)).1 ∧ (nx (nx dr 3).2 (pick3 (nx dr 3).1)).1 ≤ 9
  omega
theorem dMap_allM {α β : Type} {f : β → Dr → α × Dr} {p : α → Prop} {bs : List β} {dr : Dr} (h : ∀ b ∈ bs, ∀ dr, p (f b dr).1) : ∀ a ∈ (dMap f bs dr).1, p a := dMap_all h
theorem dClaim_ok (b : Nat) (dr : Dr) : OkC (dClaim b dr).1 := by
  have hm := dMarks_ok dr
  refine ⟨⟨?_, fun x hx => ?_⟩, ?_⟩
  · show (dMap dWant (dMarks dr).1 (dMarks dr).2).1.length = 3
    rw [dMap_len]; exact hm.1
  · refine dMap_allM (p := fun x => -1 ≤ x ∧ x ≤ 9) (f := dWant) (bs := (dMarks dr).1) (fun m hmm dr' => ?_) x hx
    have := hm.2 m hmm
    show -1 ≤ (if (nx dr' 2).1 = 0 then m else -1) ∧ (if (nx dr' 2).1 = 0 then m else -1) ≤ 9
    split <;> omega
  · have h1 := nx_bd (dMap dWant (dMarks dr).1 (dMarks dr).2).2 (k := 2) (by decide)
    have h2 := (pick2_bd 2 10 h1).1
    have h3 := nx_bd (nx (dMap dWant (dMarks dr).1 (dMarks dr).2).2 2).2 (k := (([2, 10] : List Int).getD (nx (dMap dWant (dMarks dr).1 (dMarks dr).2).2 2).1.toNat 0)) (by rcases h2 with e | e <;> rw [e] <;> decide)
    show 0 ≤ (nx (nx (dMap dWant (dMarks dr).1 (dMarks dr).2).2 2).2 (([2, 10] : List Int).getD (nx (dMap dWant (dMarks dr).1 (dMarks dr).2).2 2).1.toNat 0)).1 ∧ (nx (nx (dMap dWant (dMarks dr).1 (dMarks dr).2).2 2).2 (([2, 10] : List Int).getD (nx (dMap dWant (dMarks dr).1 (dMarks dr).2).2 2).1.toNat 0)).1 ≤ 9
    rcases h2 with e | e <;> rw [e] at h3 ⊢ <;> omega
theorem dClaims_ok (dr : Dr) : OkCs (dClaims dr).1 := by
  have h1 := nx_bd dr (k := 2) (by decide)
  have h2 := (pick2_bd 3 7 h1).1
  have h3 := nx_bd (nx dr 2).2 (k := (([3, 7] : List Int).getD (nx dr 2).1.toNat 0)) (by rcases h2 with e | e <;> rw [e] <;> decide)
  refine ⟨?_, dMap_all (f := dClaim) fun b _ dr => dClaim_ok b dr⟩
  show (dMap dClaim (List.range (nx (nx dr 2).2 (([3, 7] : List Int).getD (nx dr 2).1.toNat 0)).1.toNat) _).1.length ≤ 6
  rw [dMap_len, List.length_range]
  rcases h2 with e | e <;> rw [e] at h3 ⊢ <;> omega
end DM

namespace DM
open PySem PySem.Spec PyProof.Rows L2
/-! ### data as _law_alike goes through it -/
theorem get_app {S G : Store} {l : Nat} {o : Ob} (h : S[l]? = some o) : (S ++ G)[l]? = some o := by
  rw [List.getElem?_append_left (List.getElem?_eq_some_iff.mp h).1]; exact h
mutual
theorem PD.app {S : Store} (G : Store) : ∀ (p : PyData) (x : D), PD S x p → PD (S ++ G) x p
  | .none, _, h => by cases h; exact .non
  | .bool b, _, h => by cases h; exact .bl b
  | .int i, _, h => by cases h; exact .int i
  | .str s, _, h => by cases h; exact .str s
  | .tuple ps, _, h => by
    cases h with
    | tup h => exact .tup (PDs.app G ps _ h)
  | .list ps, _, h => by
    cases h with
    | lst hl h => exact .lst (get_app hl) (PDs.app G ps _ h)
  | .dict _, _, h => by cases h
theorem PDs.app {S : Store} (G : Store) : ∀ (ps : List PyData) (xs : List D), PDs S xs ps → PDs (S ++ G) xs ps
  | [], _, h => by cases h; exact .nil
  | p :: ps, _, h => by
    cases h with
    | cons h1 h2 => exact .cons (PD.app G p _ h1) (PDs.app G ps _ h2)
end
theorem PDs.len {S : Store} : ∀ {ps : List PyData} {xs : List D}, PDs S xs ps → xs.length = ps.length
  | [], _, h => by cases h; rfl
  | p :: ps, _, h => by
    cases h with
    | cons h1 h2 => simp [PDs.len h2]
theorem PDs.get {S : Store} : ∀ {ps : List PyData} {xs : List D} {i : Nat} {p : PyData}, PDs S xs ps → ps[i]? = some p → ∃ x, xs[i]? = some x ∧ PD S x p
  | [], _, i, p, h, e => by simp at e
  | q :: ps, _, 0, p, h, e => by
    cases h with
    | cons h1 h2 =>
      have : q = p := by simpa using e
      subst this
      exact ⟨_, rfl, h1⟩
  | q :: ps, _, i + 1, p, h, e => by
    cases h with
    | cons h1 h2 =>
      obtain ⟨x, a, b⟩ := PDs.get (i := i) (p := p) h2 (by simpa using e)
      exact ⟨x, by simpa using a, b⟩
/-- so deep at the most, no list or tuple too long -/
def okP : Nat → PyData → Bool
  | _, .none => true
  | _, .bool _ => true
  | _, .int _ => true
  | _, .str x => SeqAt.shaped (.str x)
  | n + 1, .list ps => decide (ps.length ≤ 100000) && ps.all (okP n)
  | n + 1, .tuple ps => decide (ps.length ≤ 100000) && ps.all (okP n)
  | _, _ => false
theorem filterMap_nil {α β : Type} {f : α → Option β} {l : List α} (h : ∀ a ∈ l, f a = none) : l.filterMap f = [] := List.filterMap_eq_nil_iff.mpr h
theorem rngD_mem {lo : Int} {n : Nat} {d : D} (h : d ∈ rngD lo n) : ∃ k : Nat, k < n ∧ d = .int (lo + (k : Int)) := by
  obtain ⟨k, h1, h2⟩ := List.mem_map.mp h
  exact ⟨k, List.mem_range.mp h1, h2.symm⟩
end DM

namespace DM
open PySem PySem.Spec PyProof.Rows L2
/-! ### how much claims fit: as the laws reckon it -/
def eqL (w m : List Int) : List Nat := (List.range 3).filter fun k => decide (w.getD k 0 = m.getD k 0)
def neL (w : List Int) : List Nat := (List.range 3).filter fun k => !decide (w.getD k 0 = -1)
def lawStep (m : List Int) (b : Option Int) (c : List Int × Int) : Option Int :=
  if (eqL c.1 m).length = (neL c.1).length then (match b with
    | none => some (10 * c.2 + (eqL c.1 m).length)
    | some x => if x < 10 * c.2 + (eqL c.1 m).length then some (10 * c.2 + (eqL c.1 m).length) else some x) else b
def lawFit (cs : List (List Int × Int)) (m : List Int) : Option Int := cs.foldl (lawStep m) none
theorem filter_len_eq {α : Type} {p q : α → Bool} {l : List α} (h : ∀ a ∈ l, p a = q a) : (l.filter p) = (l.filter q) := List.filter_congr h
theorem getD_mem {l : List Int} {k : Nat} (h : k < l.length) : l.getD k 0 ∈ l := by
  have : l.getD k 0 = l[k] := by simp [List.getD, List.getElem?_eq_getElem h]
  rw [this]; exact List.getElem_mem h
/-- one claim, reckoned both ways -/
theorem fit1_law {m : List Int} {c : List Int × Int} (hc : OkC c) (hm : OkM 0 m) : fit1 m c = if (eqL c.1 m).length = (neL c.1).length then some (10 * c.2 + (eqL c.1 m).length) else none := by
  have h3 : m.length = 3 := hm.1
  have w3 : c.1.length = 3 := hc.1.1
  have t : toldL c.1 m.length = neL c.1 := by
    unfold toldL neL
    rw [h3]
    refine List.filter_congr fun k hk => ?_
    have hk3 : k < 3 := List.mem_range.mp hk
    have := hc.1.2 _ (getD_mem (l := c.1) (k := k) (by omega))
    by_cases h : 0 ≤ c.1.getD k 0
    · have h' : ¬ c.1.getD k 0 = -1 := by omega
      rw [decide_eq_true h, decide_eq_false h']; rfl
    · have h' : c.1.getD k 0 = -1 := by omega
      rw [decide_eq_false h, decide_eq_true h']; rfl
  have e : eqL c.1 m = (neL c.1).filter fun k => decide (c.1.getD k 0 = m.getD k 0) := by
    unfold eqL neL
    rw [List.filter_filter]
    refine List.filter_congr fun k hk => ?_
    have hk3 : k < 3 := List.mem_range.mp hk
    have := hm.2 _ (getD_mem (l := m) (k := k) (by omega))
    by_cases h : c.1.getD k 0 = m.getD k 0
    · have h' : ¬ c.1.getD k 0 = -1 := by omega
      rw [decide_eq_true h, decide_eq_false h']; rfl
    · rw [decide_eq_false h]; rfl
  have key : ((neL c.1).filter fun k => !decide (c.1.getD k 0 = m.getD k 0)) = [] ↔ (eqL c.1 m).length = (neL c.1).length := by
    rw [e, List.length_filter_eq_length_iff, List.filter_eq_nil_iff]
    constructor
    · intro h a ha
      have := h a ha
      simpa using this
    · intro h a ha
      have := h a ha
      simpa using this
  unfold fit1
  rw [t]
  by_cases h : (eqL c.1 m).length = (neL c.1).length
  · rw [if_pos (key.mpr h), if_pos h, h]
  · rw [if_neg (fun z => h (key.mp z)), if_neg h]
theorem max_fold : ∀ (l : List Int) (x : Int), l.foldl (fun b v => match b with | none => some v | some y => if y < v then some v else some y) (some x) = some (l.foldl max x)
  | [], x => rfl
  | v :: l, x => by
    show l.foldl _ (if x < v then some v else some x) = some (l.foldl max (max x v))
    by_cases h : x < v
    · rw [if_pos h, max_fold l v, Int.max_eq_right (by omega)]
    · rw [if_neg h, max_fold l x, Int.max_eq_left (by omega)]
theorem fit_law {cs : List (List Int × Int)} {m : List Int} (hcs : OkCs cs) (hm : OkM 0 m) : lawFit cs m = fitOf cs m := by
  have gen : ∀ (l : List (List Int × Int)) (b : Option Int), (∀ c ∈ l, OkC c) → l.foldl (lawStep m) b = (l.filterMap (fit1 m)).foldl (fun b v => match b with | none => some v | some y => if y < v then some v else some y) b := by
    intro l
    induction l with
    | nil => intro b _; rfl
    | cons c l ih =>
      intro b h
      have hc := h c List.mem_cons_self
      have e := fit1_law hc hm
      rw [List.foldl_cons, ih _ fun d hd => h d (List.mem_cons_of_mem _ hd), List.filterMap_cons, e]
      unfold lawStep
      by_cases h1 : (eqL c.1 m).length = (neL c.1).length
      · simp only [if_pos h1, List.foldl_cons]
      · simp only [if_neg h1]
  unfold lawFit fitOf
  rw [gen cs none hcs.2]
  cases e : cs.filterMap (fit1 m) with
  | nil => rfl
  | cons x xs => rw [List.foldl_cons, max_fold]; rfl
theorem lawFit_snoc (m : List Int) (cs : List (List Int × Int)) (c : List Int × Int) : lawFit (cs ++ [c]) m = lawStep m (lawFit cs m) c := by
  unfold lawFit; rw [List.foldl_append]; rfl
/-! ### a law's own end -/
def spLaw (K : PySem.W.Frag) : Sp := fun vs H Q _ => ∃ (a : Addr) (ns : List Int), vs = [.ref a] ∧ SqL K H a (ns.map V.int) ∧ Only H ∧ ns.length ≤ 63 ∧ ∀ H', Q (.bl true) H'
def lawEnds : Ed := { nx := fun _ _ => False, rt := fun d _ => d = .bl true }
section
variable {P : Program} {w : World} {K : PySem.W.Frag} {mg : Str → Option Value} {base : Heap}
theorem lawD {st : Stmt} {f : Addr} {fd : FuncData} {N : List Str} {k : Nat} (Fn : FunD K "law" "law" (defArgs st) (defBody st) (defScope st) [] [] f fd) (Sc : FnScope N ["_law_script"] (defScope st))
    (body : ∀ (cdv : Value) (A : Around) (outer : List Env) (s : Shared) (H : Hp) (E : XK) (d : D) (ns : List Int), Room k (cxOf CX0 P w K mg base N "law" (defScope st) f cdv A outer s H E).nox.A → ScrD K d ns → ns.length ≤ 63 →
      WSs (cxOf CX0 P w K mg base N "law" (defScope st) f cdv A outer s H E).nox 0 (defBody st) (startD N [d]) [] lawEnds) : FnOk P w K mg base CX0 (k + 1) f fd ["_law_script"] (spLaw K) := by
  refine Fn.ok Sc (fun vs H Q E h => ?_) (fun cdv A outer s H vs Q E hr h => ?_)
  · obtain ⟨a, ns, rfl, _⟩ := h
    rfl
  · obtain ⟨a, ns, rfl, sq, ho, hl, kq⟩ := h
    refine ⟨_, PSs.nox pss_w, ?_⟩
    obtain ⟨d, hd, rd⟩ : ∃ d, ScrD K d ns ∧ RD [] H d (.ref a) := by
      rcases sq with (sq | ⟨o, sq⟩) | sq
      · rcases ho a with z | ⟨o, xs, z⟩
        · rw [z] at sq; cases sq
        · rw [z] at sq; cases sq
      · exact ⟨.scr ns, .inl rfl, a, o, rfl, sq⟩
      · exact ⟨.ref a, .inr ⟨a, rfl, sq⟩, rfl⟩
    have rs : RS [] H [] := ⟨rfl, List.nodup_nil, fun l o e => by simp at e⟩
    refine body cdv A outer s H E d ns hr hd hl [] H [] _ H _ rfl (List.prefix_refl _) (Keep.refl H) (re_start (ds := [d]) (vs := [.ref a]) ⟨_, _, rfl, rd, rfl⟩) rs ⟨fun _ _ _ _ _ _ _ _ _ z => z.elim, fun F d v H' S' _ _ _ r e => ?_, fun _ _ _ _ _ _ _ _ _ z => z.elim, fun _ _ _ _ _ _ _ _ _ z => z.elim⟩
    subst e
    cases (show v = .bl true from r)
    exact kq H'
end
end DM

set_option maxHeartbeats 0
namespace DM
open PySem PySem.Spec PyProof.Rows L2
/-! ### the text by places (printed by gen.py) -/
def top (i : Nat) : Stmt := PySem.Challenge.pw_drivermatch_k02_fits.main.body.getD i (.Pass ⟨0, 0, 0, 0⟩)
abbrev s_is_number : Stmt := top 8
abbrev s_are_marks : Stmt := top 9
abbrev s_need_marks : Stmt := top 10
abbrev s_is_claim : Stmt := top 11
abbrev s_need_claims : Stmt := top 12
abbrev s_fit_of : Stmt := top 14
abbrev s_fit : Stmt := top 15
abbrev s__law_mix : Stmt := top 17
abbrev s__law_next : Stmt := top 18
abbrev s__law_alike : Stmt := top 19
abbrev s__law_marks : Stmt := top 20
abbrev s__law_thing : Stmt := top 21
abbrev s__law_claims : Stmt := top 22
abbrev s__law_fit : Stmt := top 23
abbrev s_law : Stmt := top 24

/-! ### words: numbers, marks, claims -/
section
variable {P : Program} {w : World} {K : PySem.W.Frag} {mg : Str → Option Value} {base : Heap} {f : Addr}
abbrev N_is_number : List Str := ["part", "low", "high"]
theorem sc_is_number : FnScope N_is_number ["part", "low", "high"] (defScope s_is_number) := ⟨rfl, rfl, rfl, by decide +kernel, rfl, by decide +kernel, by decide +kernel⟩
theorem bd_is_number : BindOk "is_number" "is_number" s_is_number ["part", "low", "high"] := fun _ _ _ _ _ _ us hl => match us, hl with | [_, _, _], _ => rfl
def sp_is_number : SpD := fun ds S Q => ∃ x lo hi, ds = [x, .int lo, .int hi] ∧ kn x = true ∧ Q (.bl (numOk x lo hi)) S
abbrev C_is_number (P : Program) (w : World) (K : PySem.W.Frag) (mg : Str → Option Value) (base : Heap) : Prop := Cal P w K mg base "is_number" 1 ["part", "low", "high"] sp_is_number
theorem c_is_number (B : Bt mg) (df : Df K "is_number" "is_number" s_is_number f) (hm : mg "is_number" = some (.ref f)) : C_is_number P w K mg base := by
  refine calD df hm sc_is_number bd_is_number (fun ds S Q ⟨x, lo, hi, e, _⟩ => by rw [e]; rfl) ?_
  rintro cdv A outer s H E ds S Q hr bS bD ⟨x, lo, hi, rfl, hx, q⟩
  have ty := kn_ty hx S
  refine WSs.one (WS.ret (WE.and (WE.callB (WA.cons (WE.var 0 rfl (WA.cons (WE.bty B.int boot_int (WA.nil ?_))))) B.isinstance boot_isinstance)))
  cases x with
  | int i =>
    refine CW.isi ty kit_int_int ⟨true, rfl, fun _ => ?_, fun z => (by cases z)⟩
    refine WE.and (WE.not (WE.callB (WA.cons (WE.var 0 rfl (WA.cons (WE.bty B.bool boot_bool (WA.nil (CW.isi ty kit_int_bool ⟨_, rfl, ⟨true, rfl, fun _ => ?_, fun z => (by cases z)⟩⟩)))))) B.isinstance boot_isinstance))
    refine WE.one (WE.chain (WE.var 1 rfl (WE.var 0 rfl (BW.le ⟨_, rfl, fun h1 => (WE.var 2 rfl (BW.le (WkD.same ?_))), fun h1 => WkD.same ?_⟩))))
    · have : numOk (.int i) lo hi = decide (i ≤ hi) := by show (decide (lo ≤ i) && decide (i ≤ hi)) = _; rw [h1]; rfl
      rw [← this]; exact q
    · have : numOk (.int i) lo hi = false := by show (decide (lo ≤ i) && decide (i ≤ hi)) = _; rw [h1]; rfl
      rw [← this]; exact q
  | bl b =>
    refine CW.isi ty kit_bl_int ⟨true, rfl, fun _ => ?_, fun z => (by cases z)⟩
    exact WE.and (WE.not (WE.callB (WA.cons (WE.var 0 rfl (WA.cons (WE.bty B.bool boot_bool (WA.nil (CW.isi ty kit_bl_bool ⟨_, rfl, ⟨false, rfl, fun z => (by cases z), fun _ => WkD.same q⟩⟩)))))) B.isinstance boot_isinstance))
  | non => exact CW.isi ty kit_non_int ⟨false, rfl, fun z => (by cases z), fun _ => WkD.same q⟩
  | str b => exact CW.isi ty kit_str_int ⟨false, rfl, fun z => (by cases z), fun _ => WkD.same q⟩
  | tup b => exact CW.isi ty kit_tup_int ⟨false, rfl, fun z => (by cases z), fun _ => WkD.same q⟩
  | ty _ => cases hx
  | ref _ => cases hx
  | loc _ => cases hx
  | scr _ => cases hx
abbrev N_are_marks : List Str := ["marks", "least", "mark"]
theorem sc_are_marks : FnScope N_are_marks ["marks", "least"] (defScope s_are_marks) := ⟨rfl, rfl, rfl, by decide +kernel, rfl, by decide +kernel, by decide +kernel⟩
theorem bd_are_marks : BindOk "are_marks" "are_marks" s_are_marks ["marks", "least"] := fun _ _ _ _ _ _ us hl => match us, hl with | [_, _], _ => rfl
def sp_are_marks : SpD := fun ds S Q => ∃ x least, ds = [x, .int least] ∧ pu 20 x = true ∧ Q (.bl (marksOk x least)) S
abbrev C_are_marks (P : Program) (w : World) (K : PySem.W.Frag) (mg : Str → Option Value) (base : Heap) : Prop := Cal P w K mg base "are_marks" 2 ["marks", "least"] sp_are_marks
theorem c_are_marks (B : Bt mg) (c_MARKS : ∃ tk, mg "MARKS" = some (.int 3 tk)) (c_MOST_MARK : ∃ tk, mg "MOST_MARK" = some (.int 9 tk)) (G_is_number : C_is_number P w K mg base) (df : Df K "are_marks" "are_marks" s_are_marks f) (hm : mg "are_marks" = some (.ref f)) : C_are_marks P w K mg base := by
  obtain ⟨t1, c_MARKS⟩ := c_MARKS
  obtain ⟨t2, c_MOST_MARK⟩ := c_MOST_MARK
  refine calD df hm sc_are_marks bd_are_marks (fun ds S Q ⟨x, lo, e, _⟩ => by rw [e]; rfl) ?_
  rintro cdv A outer s H E ds S Q hr bS bD ⟨x, least, rfl, hx, q⟩
  have ty := kn_ty (pu_kn hx) S
  refine WSs.cons (WS.ite (WT.bool (WP.or (WT.not (WT.val (WE.callB (WA.cons (WE.var 0 rfl (WA.cons (WE.bty B.tuple boot_tuple (WA.nil ?_))))) B.isinstance boot_isinstance))))))
  have no : ∀ v : Fv, v = v → marksOk x least = false → WkD S.length (.bl false) S Q := fun v _ e => WkD.same (by rw [← e]; exact q)
  cases x with
  | tup xs =>
    obtain ⟨m, _, hlen, hk⟩ := pu_tup hx
    refine CW.isi ty kit_tup_tuple ⟨true, rfl, fun z => (by cases z), fun _ => WP.or1 (WT.cmp (WE.callB (WA.cons (WE.var 0 rfl (WA.nil (CW.lenT (WE.globI c_MARKS (BW.neI ⟨_, rfl, ⟨fun h1 => ?_, fun h1 => ?_⟩⟩)))))) B.len PySem.boot_len))⟩
    · refine WSs.one (WS.ret (WE.bl (no [] rfl ?_)))
      show (decide (xs.length = 3) && _) = false
      have h3 : ¬ xs.length = 3 := fun z => by simp [z] at h1
      rw [decide_eq_false h3]; rfl
    · have h3 : xs.length = 3 := by
        have : (xs.length : Int) = 3 := by simpa using h1
        omega
      refine WSs.nil ?_
      refine WSs.one (WS.ret (WE.cmp (WE.lcN 2 [("mark", 2)] (WI.tup (WE.var 0 rfl ⟨xs, rfl, ?_⟩)) (by decide) rfl sc_are_marks.nd (blkOk_by (N := N_are_marks) (sc := defScope s_are_marks) (by decide +kernel))
        (fun Y hY => by obtain ⟨_, _, _, _, _, rfl⟩ := hY; exact pg_name sc_are_marks.nd rfl (Or.inl rfl)))))
      refine lc_pure (fun y => if numOk y least 9 then none else some y) bS (by show xs.length ≤ 100000; exact hlen) (fun _ => trivial) ?_ ?_
      · intro i d acc hd
        have hd : xs[i]? = some d := hd
        have kd : kn d = true := pu_kn (hk d (List.mem_of_getElem? hd))
        refine ⟨_, rfl, fun Y hY => ?_⟩
        obtain ⟨_, _, _, _, _, rfl⟩ := hY
        refine (WT.not (WT.val (WE.cal G_is_number (hr.mono (by first | decide | omega)) (WA.cons (WE.var 2 rfl (WA.cons (WE.var 1 rfl (WA.cons (WE.globI c_MOST_MARK (WA.nil ⟨d, least, 9, rfl, kd, ⟨_, rfl, ⟨⟨[], by simp⟩, fun hb Z hZ => ?_, fun hb => ?_⟩⟩⟩))))))))))
        · obtain ⟨_, _, _, _, _, rfl⟩ := hZ
          have hn : numOk d least 9 = false := by simpa using hb
          exact WE.var 2 rfl ⟨⟨[], by simp⟩, bel_get (show bel.belAll S.length xs = true from (Bool.and_eq_true_iff.mp bD).1) hd, by simp [hn]⟩
        · have : numOk d least 9 = true := by simpa using hb
          simp [this]
      · refine WE.lst (WA.nil ⟨by show 0 ≤ sizeLine; exact sz (by decide), ?_⟩)
        have hf : ∀ y ∈ xs.filterMap fun y => if numOk y least 9 then none else some y, pu 60 y = true := fun y hy => by
          obtain ⟨z, hz, e⟩ := List.mem_filterMap.mp hy
          have : z = y := by
            by_cases hn : numOk z least 9 = true <;> simp [hn] at e
            exact e
          subst this
          exact pu_mono (by omega) (hk z hz)
        refine BW.eqL (xs := xs.filterMap fun y => if numOk y least 9 then none else some y) (ys := []) (by simp) (by simp) hf (fun _ h => by cases h) hr.units ?_
        refine ⟨_, S, by rw [List.append_assoc]; exact CovD.drop bS rfl, ?_⟩
        have : marksOk (.tup xs) least = decide ((xs.filterMap fun y => if numOk y least 9 then none else some y) = []) := by
          show (decide (xs.length = 3) && xs.all fun y => numOk y least 9) = _
          rw [decide_eq_true h3, Bool.true_and]
          rw [Bool.eq_iff_iff, List.all_eq_true, decide_eq_true_eq, List.filterMap_eq_nil_iff]
          exact ⟨fun h a ha => by simp [h a ha], fun h a ha => by
            have := h a ha
            by_cases hn : numOk a least 9 = true
            · exact hn
            · simp [hn] at this⟩
        rw [← this]; exact q
  | non => exact CW.isi ty kit_non_tuple ⟨false, rfl, fun _ => iT (WSs.one (WS.ret (WE.bl (no [] rfl rfl)))), fun z => (by cases z)⟩
  | bl b => exact CW.isi ty kit_bl_tuple ⟨false, rfl, fun _ => iT (WSs.one (WS.ret (WE.bl (no [] rfl rfl)))), fun z => (by cases z)⟩
  | int b => exact CW.isi ty kit_int_tuple ⟨false, rfl, fun _ => iT (WSs.one (WS.ret (WE.bl (no [] rfl rfl)))), fun z => (by cases z)⟩
  | str b => exact CW.isi ty kit_str_tuple ⟨false, rfl, fun _ => iT (WSs.one (WS.ret (WE.bl (no [] rfl rfl)))), fun z => (by cases z)⟩
  | ty _ => cases (pu_kn hx)
  | ref _ => cases (pu_kn hx)
  | loc _ => cases (pu_kn hx)
  | scr _ => cases (pu_kn hx)
end

section
variable {P : Program} {w : World} {K : PySem.W.Frag} {mg : Str → Option Value} {base : Heap} {f : Addr}
abbrev N_need_marks : List Str := ["marks"]
theorem sc_need_marks : FnScope N_need_marks ["marks"] (defScope s_need_marks) := ⟨rfl, rfl, rfl, by decide +kernel, rfl, by decide +kernel, by decide +kernel⟩
theorem bd_need_marks : BindOk "need_marks" "need_marks" s_need_marks ["marks"] := fun _ _ _ _ _ _ us hl => match us, hl with | [_], _ => rfl
def sp_need_marks : SpD := fun ds S Q => ∃ x, ds = [x] ∧ pu 20 x = true ∧ marksOk x 0 = true ∧ Q .non S
abbrev C_need_marks (P : Program) (w : World) (K : PySem.W.Frag) (mg : Str → Option Value) (base : Heap) : Prop := Cal P w K mg base "need_marks" 3 ["marks"] sp_need_marks
theorem c_need_marks (G_are_marks : C_are_marks P w K mg base) (df : Df K "need_marks" "need_marks" s_need_marks f) (hm : mg "need_marks" = some (.ref f)) : C_need_marks P w K mg base := by
  refine calD df hm sc_need_marks bd_need_marks (fun ds S Q ⟨x, e, _⟩ => by rw [e]; rfl) ?_
  rintro cdv A outer s H E ds S Q hr bS bD ⟨x, rfl, hx, ho, q⟩
  refine WSs.one (WS.ite (WT.not (WT.val (WE.cal G_are_marks (hr.mono (by first | decide | omega)) (WA.cons (WE.var 0 rfl (WA.cons (WE.int (WA.nil ⟨x, 0, rfl, hx, ⟨_, rfl, ⟨fun h => ?_, fun _ => WSs.nil (WkD.same q)⟩⟩⟩)))))))))
  simp [ho] at h
abbrev N_is_claim : List Str := ["claim"]
theorem sc_is_claim : FnScope N_is_claim ["claim"] (defScope s_is_claim) := ⟨rfl, rfl, rfl, by decide +kernel, rfl, by decide +kernel, by decide +kernel⟩
theorem bd_is_claim : BindOk "is_claim" "is_claim" s_is_claim ["claim"] := fun _ _ _ _ _ _ us hl => match us, hl with | [_], _ => rfl
def sp_is_claim : SpD := fun ds S Q => ∃ x, ds = [x] ∧ pu 20 x = true ∧ Q (.bl (claimOk x)) S
abbrev C_is_claim (P : Program) (w : World) (K : PySem.W.Frag) (mg : Str → Option Value) (base : Heap) : Prop := Cal P w K mg base "is_claim" 3 ["claim"] sp_is_claim
theorem c_is_claim (B : Bt mg) (G_is_number : C_is_number P w K mg base) (G_are_marks : C_are_marks P w K mg base) (df : Df K "is_claim" "is_claim" s_is_claim f) (hm : mg "is_claim" = some (.ref f)) : C_is_claim P w K mg base := by
  refine calD df hm sc_is_claim bd_is_claim (fun ds S Q ⟨x, e, _⟩ => by rw [e]; rfl) ?_
  rintro cdv A outer s H E ds S Q hr bS bD ⟨x, rfl, hx, q⟩
  have ty := kn_ty (pu_kn hx) S
  refine WSs.cons (WS.ite (WT.bool (WP.or (WT.not (WT.val (WE.callB (WA.cons (WE.var 0 rfl (WA.cons (WE.bty B.tuple boot_tuple (WA.nil ?_))))) B.isinstance boot_isinstance))))))
  have no : claimOk x = false → WkD S.length (.bl false) S Q := fun e => WkD.same (by rw [← e]; exact q)
  cases x with
  | tup xs =>
    obtain ⟨m, em, hlen, hk⟩ := pu_tup hx
    refine CW.isi ty kit_tup_tuple ⟨true, rfl, fun z => (by cases z), fun _ => WP.or (WT.cmp (WE.callB (WA.cons (WE.var 0 rfl (WA.nil (CW.lenT (WE.int (BW.neI ⟨_, rfl, ⟨fun h1 => iT ?_, fun h1 => ?_⟩⟩)))))) B.len PySem.boot_len))⟩
    · refine WSs.one (WS.ret (WE.bl (no ?_)))
      match xs, h1 with
      | [], _ => rfl
      | [a], _ => rfl
      | [a, b], h1 => simp at h1
      | a :: b :: c :: r, _ => rfl
    · match xs, h1, hk with
      | [], h1, _ => simp at h1
      | [a], h1, _ => simp at h1
      | a :: b :: c :: r, h1, _ => simp at h1; omega
      | [a, b], _, hk =>
        have pa := pu_mono (m := 20) (by omega) (hk a (by simp))
        have pb := pu_mono (m := 20) (by omega) (hk b (by simp))
        refine WP.or1 (WT.not (WT.val (WE.cal G_are_marks (hr.mono (by first | decide | omega)) (WA.cons (WE.ix (WE.var 0 rfl (WE.int (IW.tup rfl (WA.cons (WE.un (WE.int (UW.neg (WA.nil ⟨a, -1, rfl, pa, ⟨_, rfl, ⟨fun h2 => ?_, fun h2 => WSs.nil ?_⟩⟩⟩)))))))))))))
        · have : marksOk a (-1) = false := by simpa using h2
          exact WSs.one (WS.ret (WE.bl (no (by show (marksOk a (-1) && numOk b 0 9) = false; rw [this]; rfl))))
        · have : marksOk a (-1) = true := by simpa using h2
          refine WSs.one (WS.ret (WE.cal G_is_number (hr.mono (by first | decide | omega)) (WA.cons (WE.ix (WE.var 0 rfl (WE.int (IW.tup rfl (WA.cons (WE.int (WA.cons (WE.int (WA.nil ⟨b, 0, 9, rfl, pu_kn pb, (WkD.same ?_)⟩))))))))))))
          have e : claimOk (.tup [a, b]) = numOk b 0 9 := by show (marksOk a (-1) && numOk b 0 9) = _; rw [this]; rfl
          rw [← e]; exact q
  | non => exact CW.isi ty kit_non_tuple ⟨false, rfl, fun _ => iT (WSs.one (WS.ret (WE.bl (no rfl)))), fun z => (by cases z)⟩
  | int b => exact CW.isi ty kit_int_tuple ⟨false, rfl, fun _ => iT (WSs.one (WS.ret (WE.bl (no rfl)))), fun z => (by cases z)⟩
  | bl b => simp [pu] at hx
  | str b => simp [pu] at hx
  | ty _ => cases (pu_kn hx)
  | ref _ => cases (pu_kn hx)
  | loc _ => cases (pu_kn hx)
  | scr _ => cases (pu_kn hx)
abbrev N_need_claims : List Str := ["claims", "number"]
theorem sc_need_claims : FnScope N_need_claims ["claims"] (defScope s_need_claims) := ⟨rfl, rfl, rfl, by decide +kernel, rfl, by decide +kernel, by decide +kernel⟩
theorem bd_need_claims : BindOk "need_claims" "need_claims" s_need_claims ["claims"] := fun _ _ _ _ _ _ us hl => match us, hl with | [_], _ => rfl
def sp_need_claims : SpD := fun ds S Q => ∃ xs, ds = [.tup xs] ∧ pu 20 (.tup xs) = true ∧ xs.length ≤ 6 ∧ (∀ x ∈ xs, claimOk x = true) ∧ Q .non S
abbrev C_need_claims (P : Program) (w : World) (K : PySem.W.Frag) (mg : Str → Option Value) (base : Heap) : Prop := Cal P w K mg base "need_claims" 4 ["claims"] sp_need_claims
theorem c_need_claims (B : Bt mg) (c_MOST_CLAIMS : ∃ tk, mg "MOST_CLAIMS" = some (.int 6 tk)) (G_is_claim : C_is_claim P w K mg base) (df : Df K "need_claims" "need_claims" s_need_claims f) (hm : mg "need_claims" = some (.ref f)) : C_need_claims P w K mg base := by
  obtain ⟨t1, c_MOST_CLAIMS⟩ := c_MOST_CLAIMS
  refine calD df hm sc_need_claims bd_need_claims (fun ds S Q ⟨x, e, _⟩ => by rw [e]; rfl) ?_
  rintro cdv A outer s H E ds S Q hr bS bD ⟨xs, rfl, hx, hl, hc, q⟩
  have ty := kn_ty (pu_kn hx) S
  obtain ⟨m, em, hlen, hk⟩ := pu_tup hx
  refine WSs.cons (WS.ite (WT.not (WT.val (WE.callB (WA.cons (WE.var 0 rfl (WA.cons (WE.bty B.tuple boot_tuple (WA.nil (CW.isi ty kit_tup_tuple ⟨_, rfl, (iF (WSs.nil ?_))⟩)))))) B.isinstance boot_isinstance))))
  refine WSs.one (WS.for (WI.range1 (WA.cons (WE.callB (WA.cons (WE.var 0 rfl (WA.nil (CW.lenT (WA.nil ⟨_, rfl, by omega, by omega, ?_⟩))))) B.len PySem.boot_len)) B.range) PassesOwn.never rfl)
  refine ⟨fun i v2 S2 => S2 = S ∧ ∃ z, v2 = [some (.tup xs), z], ⟨rfl, none, rfl⟩, fun _ _ _ _ _ => trivial, ?_, ?_⟩
  · rintro i d v2 S2 hd ⟨rfl, z, rfl⟩
    obtain ⟨hi, rfl⟩ := rngD_get.mp hd
    have hi : i < xs.length := by simpa using hi
    have hxi : xs[i]? = some xs[i] := List.getElem?_eq_getElem hi
    refine WG.name 1 ?_ sc_need_claims.nd
    refine WSs.one (WS.ite (WT.bool (WP.or (WT.cmp (WE.var 1 rfl (WE.globI c_MOST_CLAIMS (BW.ge ⟨_, rfl, ⟨fun h1 => iT ?_, fun h1 => (WP.or1 (WT.not (WT.val (WE.cal G_is_claim (hr.mono (by first | decide | omega)) (WA.cons (WE.ix (WE.var 0 rfl (WE.var 1 rfl (IW.tup (d := xs[i]) (by rw [Int.zero_add]; exact atI_nat hxi) (WA.nil ⟨xs[i], rfl, pu_mono (by omega) (hk _ (List.getElem_mem hi)), ⟨_, rfl, ⟨fun h2 => ?_, fun h2 => WSs.nil (WkE.same ⟨rfl, _, rfl⟩)⟩⟩⟩))))))))))⟩⟩)))))))
    · simp at h1; omega
    · simp [hc _ (List.getElem_mem hi)] at h2
  · rintro v2 S2 ⟨rfl, _⟩
    exact WkD.same q
abbrev N_fit_of : List Str := ["claims", "marks", "found", "wanted", "worth", "told", "k"]
theorem sc_fit_of : FnScope N_fit_of ["claims", "marks"] (defScope s_fit_of) := ⟨rfl, rfl, rfl, by decide +kernel, rfl, by decide +kernel, by decide +kernel⟩
theorem bd_fit_of : BindOk "fit_of" "fit_of" s_fit_of ["claims", "marks"] := fun _ _ _ _ _ _ us hl => match us, hl with | [_, _], _ => rfl
def sp_fit_of : SpD := fun ds S Q => ∃ cs m, ds = [eCs cs, eM m] ∧ m.length ≤ 100 ∧ cs.length ≤ 100 ∧ (∀ c ∈ cs, c.1.length = m.length) ∧ Q (eO (fitOf cs m)) S
abbrev C_fit_of (P : Program) (w : World) (K : PySem.W.Frag) (mg : Str → Option Value) (base : Heap) : Prop := Cal P w K mg base "fit_of" 1 ["claims", "marks"] sp_fit_of
theorem c_fit_of (B : Bt mg) (df : Df K "fit_of" "fit_of" s_fit_of f) (hm : mg "fit_of" = some (.ref f)) : C_fit_of P w K mg base := by
  refine calD df hm sc_fit_of bd_fit_of (fun ds S Q ⟨cs, m, e, _⟩ => by rw [e]; rfl) ?_
  rintro cdv A outer s H E ds S Q hr bS bD ⟨cs, m, rfl, hm, hcs, hcm, q⟩
  refine WSs.cons (WS.set 2 (WE.lst (WA.nil ⟨by show 0 ≤ sizeLine; exact sz (by decide), ?_⟩)) sc_fit_of.nd)
  refine WSs.cons (WS.for (WI.tup (WE.var 0 rfl ⟨cs.map eC, rfl, ?_⟩)) PassesOwn.never rfl)
  have lf : ∀ i, ((cs.take i).filterMap (fit1 m)).length ≤ 100 := fun i => Nat.le_trans (List.length_filterMap_le _ _) (by rw [List.length_take]; omega)
  refine ⟨fun i v2 S2 => S2 = S ++ [.lst (((cs.take i).filterMap (fit1 m)).map D.int)] ∧ ∃ z3 z4 z5 z6, v2 = [some (eCs cs), some (eM m), some (.loc S.length), z3, z4, z5, z6], ⟨by simp, none, none, none, none, rfl⟩, fun _ _ _ _ _ => trivial, ?_, ?_⟩
  · rintro i d v2 S2 hd ⟨rfl, z3, z4, z5, z6, rfl⟩
    have hd : (cs.map eC)[i]? = some d := hd
    obtain ⟨c, hci, rfl⟩ : ∃ c, cs[i]? = some c ∧ d = eC c := by
      rw [List.getElem?_map] at hd
      cases e : cs[i]? with
      | none => rw [e] at hd; cases hd
      | some c => rw [e] at hd; exact ⟨c, rfl, (Option.some.inj hd).symm⟩
    have hcl : c.1.length = m.length := hcm c (List.mem_of_getElem? hci)
    have bS1 : belS (S.length + 1) (S ++ [Ob.lst (((cs.take i).filterMap (fit1 m)).map D.int)]) := belS_snoc (belS_mono (Nat.le_succ _) bS) (belInts _)
    have lS1 : (S ++ [Ob.lst (((cs.take i).filterMap (fit1 m)).map D.int)]).length = S.length + 1 := by simp
    have lS0 : (S ++ [Ob.lst []]).length = S.length + 1 := by simp
    refine WG.tup rfl (WGs.cons (WG.name 3 (WGs.cons (WG.name 4 (WGs.nil ?_) sc_fit_of.nd)) sc_fit_of.nd)) rfl
    have hk3 : ∀ k, k < m.length → k < c.1.length := fun k hk => by omega
    refine WSs.cons (WS.setLcN 6 [("k", 6)] 5 (WI.range1 (WA.cons (WE.callB (WA.cons (WE.var 1 rfl (WA.nil (CW.lenT (WA.nil ⟨_, rfl, by rw [List.length_map]; omega, by rw [List.length_map]; omega, ?_⟩))))) B.len PySem.boot_len)) B.range) (by decide) rfl sc_fit_of.nd rfl rfl (sw_true rfl rfl rfl (by decide +kernel)) (blkOk_by (N := N_fit_of) (sc := defScope s_fit_of) (by decide +kernel))
      (fun Y hY => by obtain ⟨_, _, _, _, _, rfl⟩ := hY; exact pg_name sc_fit_of.nd rfl (Or.inl rfl)))
    have tol : ((m.map D.int).length : Int).toNat = m.length := by simp
    rw [tol]
    refine lc_pure (fun d => match d with | .int k => if 0 ≤ c.1.getD k.toNat 0 then some d else none | _ => none) (by rw [lS1]; exact bS1) (by show (rngD 0 m.length).length ≤ 100000; rw [rngD_len]; omega) (fun _ => trivial) ?_ ?_
    · intro j d acc hd
      obtain ⟨hj, rfl⟩ := rngD_get.mp hd
      refine ⟨_, rfl, fun Y hY => ?_⟩
      obtain ⟨_, _, _, _, _, rfl⟩ := hY
      refine (WT.cmp (WE.ix (WE.var 3 rfl (WE.var 6 rfl (IW.tup (d := .int (c.1.getD j 0)) (by rw [Int.zero_add]; exact at_ints (hk3 j hj)) (WE.int (BW.ge ⟨_, rfl, ⟨⟨[], by simp⟩, fun hb Z hZ => ?_, fun hb => ?_⟩⟩)))))))
      · obtain ⟨_, _, _, _, _, rfl⟩ := hZ
        refine WE.var 6 rfl ⟨⟨[], by simp⟩, rfl, ?_⟩
        have h0 : 0 ≤ c.1.getD j 0 := of_decide_eq_true hb
        have ej : (0 + (j : Int)).toNat = j := by omega
        simp only [ej, if_pos h0]
      · have h0 : ¬ 0 ≤ c.1.getD j 0 := of_decide_eq_false hb
        have ej : (0 + (j : Int)).toNat = j := by omega
        simp only [ej, if_neg h0]
    · have e1 : (rngD 0 m.length).filterMap (fun d => match d with | .int k => if 0 ≤ c.1.getD k.toNat 0 then some d else none | _ => none) = (toldL c.1 m.length).map fun (k : Nat) => D.int (k : Int) := range_fm (p := fun k => decide (0 ≤ c.1.getD k 0)) fun k hk => by simp
      rw [show (Src.items ⟨rngD 0 m.length, fun _ => True⟩) = rngD 0 m.length from rfl, e1]
      have bS2 : belS (S.length + 2) (S ++ [Ob.lst (((cs.take i).filterMap (fit1 m)).map D.int)] ++ [Ob.lst ((toldL c.1 m.length).map fun (k : Nat) => D.int (k : Int))]) := belS_snoc (belS_mono (Nat.le_succ _) bS1) (belAll_map (fun _ => rfl) _)
      have lS2 : (S ++ [Ob.lst (((cs.take i).filterMap (fit1 m)).map D.int)] ++ [Ob.lst ((toldL c.1 m.length).map fun (k : Nat) => D.int (k : Int))]).length = S.length + 2 := by simp
      have htl : ∀ k ∈ toldL c.1 m.length, k < m.length := fun k hk => List.mem_range.mp (List.mem_filter.mp hk).1
      have htn : (toldL c.1 m.length).length ≤ 100 := Nat.le_trans (List.length_filter_le _ _) (by simp; omega)
      refine WSs.one (WS.ite (WT.cmp (WE.lcN 6 [("k", 6)] (WI.list (WE.var 5 rfl ⟨_, (toldL c.1 m.length).map fun (k : Nat) => D.int (k : Int), rfl, by simp, ?_⟩)) (by decide) rfl sc_fit_of.nd (blkOk_by (N := N_fit_of) (sc := defScope s_fit_of) (by decide +kernel))
        (fun Y hY => by obtain ⟨_, _, _, _, _, rfl⟩ := hY; exact pg_name sc_fit_of.nd rfl (Or.inl rfl)))))
      refine lc_pure (fun d => match d with | .int k => if !decide (c.1.getD k.toNat 0 = m.getD k.toNat 0) then some d else none | _ => none) (by rw [lS2]; exact bS2) (by show ((toldL c.1 m.length).map fun (k : Nat) => D.int (k : Int)).length ≤ 100000; rw [List.length_map]; omega) (fun _ => by simp) ?_ ?_
      · intro j d acc hd
        have hd : ((toldL c.1 m.length).map fun (k : Nat) => D.int (k : Int))[j]? = some d := hd
        obtain ⟨k, hkm, rfl⟩ : ∃ k, k ∈ toldL c.1 m.length ∧ d = .int (k : Int) := by
          obtain ⟨k, h1, h2⟩ := List.mem_map.mp (List.mem_of_getElem? hd)
          exact ⟨k, h1, h2.symm⟩
        have hk := htl k hkm
        refine ⟨_, rfl, fun Y hY => ?_⟩
        obtain ⟨_, _, _, _, _, rfl⟩ := hY
        refine (WT.cmp (WE.ix (WE.var 3 rfl (WE.var 6 rfl (IW.tup (d := .int (c.1.getD k 0)) (at_ints (hk3 k hk)) (WE.ix (WE.var 1 rfl (WE.var 6 rfl (IW.tup (d := .int (m.getD k 0)) (at_ints hk) (BW.neI ⟨_, rfl, ⟨⟨[], by simp⟩, fun hb Z hZ => ?_, fun hb => ?_⟩⟩))))))))))
        · obtain ⟨_, _, _, _, _, rfl⟩ := hZ
          refine WE.var 6 rfl ⟨⟨[], by simp⟩, rfl, ?_⟩
          simp only [Int.toNat_natCast, hb, if_true]
        · simp only [Int.toNat_natCast, hb]; rfl
      · have e2 : ((toldL c.1 m.length).map fun (k : Nat) => D.int (k : Int)).filterMap (fun d => match d with | .int k => if !decide (c.1.getD k.toNat 0 = m.getD k.toNat 0) then some d else none | _ => none) = ((toldL c.1 m.length).filter fun k => !decide (c.1.getD k 0 = m.getD k 0)).map fun (k : Nat) => D.int (k : Int) := list_fm (p := fun k => !decide (c.1.getD k 0 = m.getD k 0)) fun k hk => by simp only [Int.toNat_natCast]
        rw [show (Src.items ⟨((toldL c.1 m.length).map fun (k : Nat) => D.int (k : Int)), _⟩) = ((toldL c.1 m.length).map fun (k : Nat) => D.int (k : Int)) from rfl, e2]
        refine WE.lst (WA.nil ⟨by show 0 ≤ sizeLine; exact sz (by decide), ?_⟩)
        refine BW.eqL (xs := ((toldL c.1 m.length).filter fun k => !decide (c.1.getD k 0 = m.getD k 0)).map fun (k : Nat) => D.int (k : Int)) (ys := []) (by simp) (by simp) (fun x hx => by obtain ⟨k, _, rfl⟩ := List.mem_map.mp hx; rfl) (fun _ h => by cases h) hr.units ?_
        have fin : ∀ (ns : List Int) (G : Store), ns = (cs.take (i + 1)).filterMap (fit1 m) → WkE (S ++ [Ob.lst []]).length [some (eCs cs), some (eM m), some (.loc S.length), some (eM c.1), some (.int c.2), some (.loc (S.length + 1)), z6] (S ++ [.lst (ns.map D.int)] ++ G) fun v4 S4 => S4 = S ++ [.lst (((cs.take (i + 1)).filterMap (fit1 m)).map D.int)] ∧ ∃ z3 z4 z5 z6, v4 = [some (eCs cs), some (eM m), some (.loc S.length), z3, z4, z5, z6] := fun ns G e => by
          subst e
          refine ⟨_, _, CovE.drop (v2 := [some (eCs cs), some (eM m), some (.loc S.length), none, none, none, none]) ?_ ?_ ?_ ?_, rfl, _, _, _, _, rfl⟩
          · simp
          · simp only [List.length_append, List.length_cons, List.length_nil]
            exact belS_snoc (belS_mono (Nat.le_succ _) bS) (belInts _)
          · exact ⟨rfl, fun j d h => by
              match j, h with
              | 0, h => exact h
              | 1, h => exact h
              | 2, h => exact h
              | 3, h => simp at h
              | 4, h => simp at h
              | 5, h => simp at h
              | 6, h => simp at h
              | j + 7, h => simp at h⟩
          · intro j d h
            match j, h with
            | 0, h => cases h; exact bel_eCs cs
            | 1, h => cases h; exact bel_eM m
            | 2, h => cases h; exact decide_eq_true (by simp)
            | 3, h => simp at h
            | 4, h => simp at h
            | 5, h => simp at h
            | 6, h => simp at h
            | j + 7, h => simp at h
        have tk : (cs.take (i + 1)).filterMap (fit1 m) = (cs.take i).filterMap (fit1 m) ++ (fit1 m c).toList := by
          have : cs.take (i + 1) = cs.take i ++ [c] := by rw [List.take_add_one, hci]; rfl
          rw [this, List.filterMap_append]
          cases e : fit1 m c <;> simp [List.filterMap, e]
        refine ⟨_, rfl, fun h1 => ?_, fun h1 => ?_⟩
        · have hz : ((toldL c.1 m.length).filter fun k => !decide (c.1.getD k 0 = m.getD k 0)) = [] := by simpa using h1
          have hf : fit1 m c = some (10 * c.2 + (toldL c.1 m.length).length) := by unfold fit1; rw [if_pos hz]
          refine WSs.one (WS.expr (WE.bm PySem.F.plainAttrs_list PySem.F.slot_list_append PySem.F.type_list_append (WE.var 2 rfl ⟨?_, (WA.cons (WE.bin (WE.bin (WE.int (WE.var 4 rfl (BW.mul (by first | exact .inr ⟨by decide, by decide⟩ | exact .inl ⟨by decide, by decide⟩) (WE.callB (WA.cons (WE.var 5 rfl (WA.nil (CW.lenL (xs := (toldL c.1 m.length).map fun (k : Nat) => D.int (k : Int)) (by simp) (BW.add (WA.nil (MW.append (xs := ((cs.take i).filterMap (fit1 m)).map D.int) (by simp) (by rw [List.length_map]; exact szl (by have := lf i; omega)) ?_))))))) B.len PySem.boot_len)))))))⟩)))
          · exact Or.inl ⟨rfl, ((cs.take i).filterMap (fit1 m)).map D.int, by simp⟩
          · have := fin ((cs.take i).filterMap (fit1 m) ++ [10 * c.2 + (toldL c.1 m.length).length]) [.lst ((toldL c.1 m.length).map fun (k : Nat) => D.int (k : Int)), .lst (((toldL c.1 m.length).filter fun k => !decide (c.1.getD k 0 = m.getD k 0)).map fun (k : Nat) => D.int (k : Int)), .lst []] (by rw [tk, hf]; rfl)
            simpa using this
        · have hz : ¬ ((toldL c.1 m.length).filter fun k => !decide (c.1.getD k 0 = m.getD k 0)) = [] := by simpa using h1
          have hf : fit1 m c = none := by unfold fit1; rw [if_neg hz]
          refine WSs.nil ?_
          have := fin ((cs.take i).filterMap (fit1 m)) [.lst ((toldL c.1 m.length).map fun (k : Nat) => D.int (k : Int)), .lst (((toldL c.1 m.length).filter fun k => !decide (c.1.getD k 0 = m.getD k 0)).map fun (k : Nat) => D.int (k : Int)), .lst []] (by rw [tk, hf]; simp)
          simpa using this
  · rintro v2 S2 ⟨rfl, z3, z4, z5, z6, rfl⟩
    have tkl : cs.take (cs.map eC).length = cs := by rw [List.length_map, List.take_length]
    rw [show (Src.items ⟨cs.map eC, fun _ => True⟩) = cs.map eC from rfl, tkl]
    have ed : ∀ (r : Option Int) (G : Store), r = fitOf cs m → WkD S.length (eO r) (S ++ G) Q := fun r G e => by
      subst e
      refine ⟨_, S, CovD.drop bS ?_, q⟩
      cases fitOf cs m <;> rfl
    refine WSs.one (WS.ret (WE.ite (WT.cmp (WE.var 2 rfl (WE.lst (WA.nil ⟨by show 0 ≤ sizeLine; exact sz (by decide), ?_⟩))))))
    refine BW.neL (xs := (cs.filterMap (fit1 m)).map D.int) (ys := []) (by simp) (by simp) (fun x hx => by obtain ⟨k, _, rfl⟩ := List.mem_map.mp hx; rfl) (fun _ h => by cases h) hr.units ?_
    refine ⟨_, rfl, fun h1 => ?_, fun h1 => ?_⟩
    · have hne : cs.filterMap (fit1 m) ≠ [] := by simpa using h1
      refine (WE.callB (WA.cons (WE.var 2 rfl (WA.nil (CW.maxL (ns := cs.filterMap (fit1 m)) (by simp) (List.length_pos_iff.mpr hne) rfl (fun mx hmx hle => ?_))))) B.max boot_max)
      have := ed (some mx) [.lst ((cs.filterMap (fit1 m)).map D.int), .lst []] (max_is hmx hle).symm
      show WkD S.length (.int mx) _ Q
      simpa [eO, D.ofO] using this
    · have hne : cs.filterMap (fit1 m) = [] := by simpa using h1
      refine WE.non ?_
      have := ed none [.lst ((cs.filterMap (fit1 m)).map D.int), .lst []] (by unfold fitOf; rw [hne]; rfl)
      show WkD S.length .non _ Q
      simpa [eO, D.ofO] using this
end

/-! ### what the laws draw -/
section
variable {P : Program} {w : World} {K : PySem.W.Frag} {mg : Str → Option Value} {base : Heap} {f : Addr}
abbrev N__law_mix : List Str := ["_law_script", "_law_seed", "_law_mixed", "_law_cell"]
theorem sc__law_mix : FnScope N__law_mix ["_law_script", "_law_seed"] (defScope s__law_mix) := ⟨rfl, rfl, rfl, by decide +kernel, rfl, by decide +kernel, by decide +kernel⟩
theorem bd__law_mix : BindOk "_law_mix" "_law_mix" s__law_mix ["_law_script", "_law_seed"] := fun _ _ _ _ _ _ us hl => match us, hl with | [_, _], _ => rfl
def sp__law_mix (K : PySem.W.Frag) : SpD := fun ds S Q => ∃ d ns seed, ds = [d, .int seed] ∧ S = [] ∧ ScrD K d ns ∧ ns.length ≤ 63 ∧ Q (.loc 1) (dS (mixDr ns seed) [])
abbrev C__law_mix (P : Program) (w : World) (K : PySem.W.Frag) (mg : Str → Option Value) (base : Heap) : Prop := Cal P w K mg base "_law_mix" 1 ["_law_script", "_law_seed"] (sp__law_mix K)
theorem c__law_mix (B : Bt mg) (df : Df K "_law_mix" "_law_mix" s__law_mix f) (hm : mg "_law_mix" = some (.ref f)) : C__law_mix P w K mg base := by
  refine calD df hm sc__law_mix bd__law_mix (fun ds S Q ⟨d, ns, seed, e, _⟩ => by rw [e]; rfl) ?_
  rintro cdv A outer s H E ds S Q hr bS bD ⟨d, ns, seed, rfl, rfl, hs, hl, q⟩
  refine WSs.cons (WS.set 2 (WE.var 1 rfl ?_) sc__law_mix.nd)
  refine WSs.cons (WS.for (WI.scr (WE.var 0 rfl ⟨ns, hs, ?_⟩)) PassesOwn.never rfl)
  refine ⟨fun i v2 S2 => S2 = [] ∧ ∃ z, v2 = [some d, some (.int seed), some (.int (mixI (ns.take i) seed)), z], ⟨rfl, none, rfl⟩, fun _ _ _ _ _ => trivial, ?_, ?_⟩
  · rintro i d' v2 S2 hd ⟨rfl, z, rfl⟩
    have hd : (ns.map D.int)[i]? = some d' := hd
    obtain ⟨c, hci, rfl⟩ : ∃ c, ns[i]? = some c ∧ d' = .int c := by
      rw [List.getElem?_map] at hd
      cases e : ns[i]? with
      | none => rw [e] at hd; cases hd
      | some c => rw [e] at hd; exact ⟨c, rfl, (Option.some.inj hd).symm⟩
    refine WG.name 3 ?_ sc__law_mix.nd
    refine WSs.one (WS.set 2 (WE.bin (WE.bin (WE.bin (WE.bin (WE.var 2 rfl (WE.int (BW.mul (by first | exact .inr ⟨by decide, by decide⟩ | exact .inl ⟨by decide, by decide⟩) (WE.bin (WE.var 3 rfl (WE.int (BW.mod (by decide) (BW.add (WE.int (BW.add (WE.int (BW.mod (by decide) (WkE.same ⟨rfl, some (.int c), ?_⟩))))))))))))))))) sc__law_mix.nd)
    have : ns.take (i + 1) = ns.take i ++ [c] := by rw [List.take_add_one, hci]; rfl
    unfold mixI
    rw [this, List.foldl_append]
    rfl
  · rintro v2 S2 ⟨rfl, z, rfl⟩
    rw [show (Src.items ⟨ns.map D.int, fun _ => True⟩) = ns.map D.int from rfl, List.length_map, List.take_length]
    refine WSs.one (WS.ret (WE.lst (WA.cons (WE.var 2 rfl (WA.cons (WE.callT (WA.cons (WE.var 0 rfl (WA.nil (CW.listScr hs (WA.cons (WE.int (WA.nil ⟨by show 3 ≤ sizeLine; exact sz (by decide), (WkD.same q)⟩))))))) B.list boot_list))))))
abbrev N__law_next : List Str := ["_law_h", "_law_many", "_law_at", "_law_cell"]
theorem sc__law_next : FnScope N__law_next ["_law_h", "_law_many"] (defScope s__law_next) := ⟨rfl, rfl, rfl, by decide +kernel, rfl, by decide +kernel, by decide +kernel⟩
theorem bd__law_next : BindOk "_law_next" "_law_next" s__law_next ["_law_h", "_law_many"] := fun _ _ _ _ _ _ us hl => match us, hl with | [_, _], _ => rfl
def sp__law_next : SpD := fun ds S Q => ∃ dr R k, ds = [.loc 1, .int k] ∧ S = dS dr R ∧ 0 < k ∧ k < 1073741824 ∧ Q (.int (nx dr k).1) (dS (nx dr k).2 R)
abbrev C__law_next (P : Program) (w : World) (K : PySem.W.Frag) (mg : Str → Option Value) (base : Heap) : Prop := Cal P w K mg base "_law_next" 1 ["_law_h", "_law_many"] sp__law_next
theorem c__law_next (B : Bt mg) (df : Df K "_law_next" "_law_next" s__law_next f) (hm : mg "_law_next" = some (.ref f)) : C__law_next P w K mg base := by
  refine calD df hm sc__law_next bd__law_next (fun ds S Q ⟨dr, R, k, e, _⟩ => by rw [e]; rfl) ?_
  rintro cdv A outer s H E ds S Q hr bS bD ⟨dr, R, k, rfl, rfl, hk0, hk1, q⟩
  have e0 : ∀ dr' : Dr, (dS dr' R)[0]? = some (.lst (dr'.cells.map D.int)) := fun _ => rfl
  have hmx : 0 < (if 1 < dr.cells.length then dr.cells.length else 1) := by split <;> omega
  have hpl : dr.pl < dr.cells.length ∨ dr.cells = [] := by
    by_cases h : dr.cells = []
    · exact .inr h
    · have : 0 < dr.cells.length := List.length_pos_iff.mpr h
      have h2 := Nat.mod_lt dr.at_ hmx
      have h3 : dr.pl = dr.at_ % (if 1 < dr.cells.length then dr.cells.length else 1) := rfl
      left
      rw [h3]
      split at h2 <;> rename_i h4
      · rw [if_pos h4]; exact h2
      · rw [if_neg h4]; omega
  refine WSs.cons (WS.set 2 (WE.bin (WE.ix (WE.var 0 rfl (WE.int (IW.list (l := 1) rfl rfl (WE.callB (WA.cons (WE.int (WA.cons (WE.callB (WA.cons (WE.ix (WE.var 0 rfl (WE.int (IW.list (l := 1) rfl rfl (WA.nil (CW.lenL (e0 dr) (WA.nil (CW.max2 rfl (BW.mod (by split <;> omega) ?_)))))))))) B.len PySem.boot_len)))) B.max boot_max)))))) sc__law_next.nd)
  have eat : ((dr.at_ : Int) % (if ((dr.cells.map D.int).length : Int) > 1 then ((dr.cells.map D.int).length : Int) else 1)) = (dr.pl : Int) := by
    rw [List.length_map]
    show _ = ((dr.at_ % (if 1 < dr.cells.length then dr.cells.length else 1) : Nat) : Int)
    by_cases h : 1 < dr.cells.length
    · rw [if_pos h, if_pos (by omega)]; omega
    · rw [if_neg h, if_neg (by omega)]; omega
  rw [eat]
  refine WSs.cons (WS.set 3 (WE.ite (WT.cmp (WE.ix (WE.var 0 rfl (WE.int (IW.list (l := 1) rfl rfl (WE.lst (WA.nil ⟨by show 0 ≤ sizeLine; exact sz (by decide), ?_⟩)))))))) sc__law_next.nd)
  refine BW.neL (l := 0) (xs := dr.cells.map D.int) (ys := []) rfl (by simp) (fun x hx => by obtain ⟨c, _, rfl⟩ := List.mem_map.mp hx; rfl) (fun _ h => by cases h) hr.units ?_
  have go : WSs (cxOf CX0 P w K mg base N__law_next "_law_next" (defScope s__law_next) f cdv A outer s H E).nox (dS dr R).length ((defBody s__law_next).drop 2) [some (.loc 1), some (.int k), some (.int (dr.pl : Int)), some (.int dr.cell)] (dS dr R ++ [.lst []]) (fnEnds (dS dr R).length Q) := by
    have fin : ∀ G, WkD (dS dr R).length (.int (nx dr k).1) (dS (nx dr k).2 R ++ G) Q := fun G => ⟨_, _, cov_dS bS rfl, q⟩
    refine WSs.cons (WS.ite (WT.cmp (WE.var 3 rfl (WE.bin (WE.int (WE.int (BW.pow ⟨by decide, by decide, by decide⟩ (BW.ge ⟨_, rfl, ⟨fun h1 => ?_, fun h1 => ?_⟩⟩))))))))
    · have hc : (1000000000000000000 : Int) ≤ dr.cell := by
        have := of_decide_eq_true h1
        exact Int.le_trans (by decide) this
      have en : nx dr k = (dr.cell % k, ⟨dr.m, dr.cells.set dr.pl (dr.cell / k), dr.at_⟩) := by unfold nx; rw [if_pos hc]
      have hne : dr.pl < dr.cells.length := hpl.resolve_right fun z => by
        have : dr.cell = 0 := by unfold Dr.cell; rw [if_pos z]
        omega
      refine WSs.cons (WS.asg (WE.bin (WE.var 3 rfl (WE.var 1 rfl (BW.fdiv ⟨hk0, hk1⟩ (WG.setL (WE.ix (WE.var 0 rfl (WE.int (IW.list (l := 1) rfl rfl (WE.var 2 rfl ⟨0, dr.cells.map D.int, (dr.pl : Int), dr.pl, rfl, rfl, rfl, ?_, ?_⟩)))))))))))
      · unfold ixN
        rw [List.length_map, if_pos (by omega), if_pos (by omega)]
        simp
      · refine WSs.one (WS.ret (WE.bin (WE.var 3 rfl (WE.var 1 rfl (BW.mod hk0 ?_)))))
        have := fin [.lst []]
        rw [en] at this
        have e2 : (dr.cells.map D.int).set dr.pl (.int (dr.cell / k)) = (dr.cells.set dr.pl (dr.cell / k)).map D.int := by rw [List.map_set]
        show WkD _ _ (.lst ((dr.cells.map D.int).set dr.pl (.int (dr.cell / k))) :: _) Q
        rw [e2]
        exact this
    · have hc : ¬ (1000000000000000000 : Int) ≤ dr.cell := fun z => by
        have := of_decide_eq_false h1
        exact this (Int.le_trans (by decide) z)
      have en : nx dr k = ((dr.m * 48271 + dr.cell * 69621 + 11) % 2147483647 / 7 % k, ⟨(dr.m * 48271 + dr.cell * 69621 + 11) % 2147483647, dr.cells, dr.at_ + 1⟩) := by unfold nx; rw [if_neg hc]
      refine WSs.nil ?_
      refine WSs.cons (WS.asg (WE.bin (WE.bin (WE.bin (WE.bin (WE.ix (WE.var 0 rfl (WE.int (IW.list (l := 1) rfl rfl (WE.int (BW.mul (by first | exact .inr ⟨by decide, by decide⟩ | exact .inl ⟨by decide, by decide⟩) (WE.bin (WE.var 3 rfl (WE.int (BW.mul (by first | exact .inr ⟨by decide, by decide⟩ | exact .inl ⟨by decide, by decide⟩) (BW.add (WE.int (BW.add (WE.int (BW.mod (by decide) (WG.setL (WE.var 0 rfl (WE.int ⟨1, _, 0, 0, rfl, rfl, rfl, rfl, ?_⟩)))))))))))))))))))))))
      refine WSs.cons (WS.asg (WE.bin (WE.ix (WE.var 0 rfl (WE.int (IW.list (l := 1) rfl rfl (WE.int (BW.add (WG.setL (WE.var 0 rfl (WE.int ⟨1, _, 2, 2, rfl, rfl, rfl, rfl, ?_⟩)))))))))))
      refine WSs.one (WS.ret (WE.bin (WE.bin (WE.ix (WE.var 0 rfl (WE.int (IW.list (l := 1) rfl rfl (WE.int (BW.fdiv ⟨by decide, by decide⟩ (WE.var 1 rfl (BW.mod hk0 ?_)))))))))))
      have := fin [.lst []]
      rw [en] at this
      exact this
  refine ⟨_, rfl, fun h1 => ?_, fun h1 => ?_⟩
  · have hne : dr.cells ≠ [] := by simpa using h1
    have hp := hpl.resolve_right hne
    refine (WE.ix (WE.ix (WE.var 0 rfl (WE.int (IW.list (l := 1) rfl rfl (WE.var 2 rfl (IW.list (l := 0) (xs := dr.cells.map D.int) (d := .int (dr.cells.getD dr.pl 0)) rfl (at_ints hp) ?_)))))))
    have : dr.cell = dr.cells.getD dr.pl 0 := by unfold Dr.cell; rw [if_neg hne]
    rw [← this]
    exact go
  · have hne : dr.cells = [] := by simpa using h1
    refine WE.int ?_
    have : dr.cell = 0 := by unfold Dr.cell; rw [if_pos hne]
    rw [this] at go
    exact go
end

section
variable {P : Program} {w : World} {K : PySem.W.Frag} {mg : Str → Option Value} {base : Heap} {f : Addr}
abbrev N__law_marks : List Str := ["_law_h", "_law_k"]
theorem sc__law_marks : FnScope N__law_marks ["_law_h"] (defScope s__law_marks) := ⟨rfl, rfl, rfl, by decide +kernel, rfl, by decide +kernel, by decide +kernel⟩
theorem bd__law_marks : BindOk "_law_marks" "_law_marks" s__law_marks ["_law_h"] := fun _ _ _ _ _ _ us hl => match us, hl with | [_], _ => rfl
def sp__law_marks : SpD := fun ds S Q => ∃ dr R, ds = [.loc 1] ∧ S = dS dr R ∧ Q (eM (dMarks dr).1) (dS (dMarks dr).2 R)
abbrev C__law_marks (P : Program) (w : World) (K : PySem.W.Frag) (mg : Str → Option Value) (base : Heap) : Prop := Cal P w K mg base "_law_marks" 2 ["_law_h"] sp__law_marks
theorem c__law_marks (B : Bt mg) (G__law_next : C__law_next P w K mg base) (df : Df K "_law_marks" "_law_marks" s__law_marks f) (hm : mg "_law_marks" = some (.ref f)) : C__law_marks P w K mg base := by
  refine calD df hm sc__law_marks bd__law_marks (fun ds S Q ⟨dr, R, e, _⟩ => by rw [e]; rfl) ?_
  rintro cdv A outer s H E ds S Q hr bS bD ⟨dr, R, rfl, rfl, q⟩
  refine WSs.one (WS.ret (WE.callT (WA.cons (WE.lcN 1 [("_law_k", 1)] (WI.range1 (WA.cons (WE.int (WA.nil ⟨3, rfl, by decide, by decide, ?_⟩))) B.range) (by decide) rfl sc__law_marks.nd (blkOk_by (N := N__law_marks) (sc := defScope s__law_marks) (by decide +kernel))
        (fun Y hY => by obtain ⟨_, _, _, _, _, rfl⟩ := hY; exact pg_name sc__law_marks.nd rfl (Or.inl rfl)))) B.tuple boot_tuple))
  refine lc_draw (fun (k : Nat) => D.int (0 + (k : Int))) D.int dMark (List.range 3) (fun _ _ => rfl) bS (by decide) (fun _ _ => trivial) ?_ ?_
  · intro b dr' acc hb
    refine ⟨_, rfl, fun Y hY => ?_⟩
    obtain ⟨_, _, _, _, _, rfl⟩ := hY
    have h1 := nx_bd dr' (k := 3) (by decide)
    have h2 := pick3_bd h1
    refine (WE.cal G__law_next (hr.mono (by first | decide | omega)) (WA.cons (WE.var 0 rfl (WA.cons (WE.ix (WE.lst (WA.cons (WE.int (WA.cons (WE.int (WA.cons (WE.int (WA.nil ⟨by show 3 ≤ sizeLine; exact sz (by decide), (WE.cal G__law_next (hr.mono (by first | decide | omega)) (WA.cons (WE.var 0 rfl (WA.cons (WE.int (WA.nil ⟨dr', R ++ [.lst acc] ++ [.lst [.int 2, .int 3, .int 10]], 3, rfl, rfl, by decide, by decide, (IW.list (xs := [.int 2, .int 3, .int 10]) (by simp [dS]) h2.2.2 (WA.nil ⟨(nx dr' 3).2, R ++ [.lst acc] ++ [.lst [.int 2, .int 3, .int 10]], pick3 (nx dr' 3).1, rfl, rfl, by omega, by omega, ⟨rfl, [.lst [.int 2, .int 3, .int 10]], rfl⟩⟩))⟩))))))⟩)))))))))))))
  · refine WA.nil (CW.tupL (xs := (dMarks dr).1.map D.int) ?_ ?_)
    · show (R ++ [Ob.lst ((dMarks dr).1.map D.int)])[R.length]? = _
      simp
    · exact ⟨_, _, cov_dS (dr' := (dMarks dr).2) (G := [.lst ((dMarks dr).1.map D.int)]) bS (bel_eM _), q⟩
abbrev N__law_claims : List Str := ["_law_h", "_law_found", "_law_k", "_law_marks_here", "_law_wanted", "_law_mark"]
theorem sc__law_claims : FnScope N__law_claims ["_law_h"] (defScope s__law_claims) := ⟨rfl, rfl, rfl, by decide +kernel, rfl, by decide +kernel, by decide +kernel⟩
theorem bd__law_claims : BindOk "_law_claims" "_law_claims" s__law_claims ["_law_h"] := fun _ _ _ _ _ _ us hl => match us, hl with | [_], _ => rfl
def sp__law_claims : SpD := fun ds S Q => ∃ dr R, ds = [.loc 1] ∧ S = dS dr R ∧ Q (eCs (dClaims dr).1) (dS (dClaims dr).2 R)
abbrev C__law_claims (P : Program) (w : World) (K : PySem.W.Frag) (mg : Str → Option Value) (base : Heap) : Prop := Cal P w K mg base "_law_claims" 3 ["_law_h"] sp__law_claims
theorem c__law_claims (B : Bt mg) (G__law_next : C__law_next P w K mg base) (G__law_marks : C__law_marks P w K mg base) (df : Df K "_law_claims" "_law_claims" s__law_claims f) (hm : mg "_law_claims" = some (.ref f)) : C__law_claims P w K mg base := by
  refine calD df hm sc__law_claims bd__law_claims (fun ds S Q ⟨dr, R, e, _⟩ => by rw [e]; rfl) ?_
  rintro cdv A outer s H E ds S Q hr bS bD ⟨dr, R, rfl, rfl, q⟩
  refine WSs.cons (WS.set 1 (WE.lst (WA.nil ⟨by show 0 ≤ sizeLine; exact sz (by decide), ?_⟩)) sc__law_claims.nd)
  have h1 := nx_bd dr (k := 2) (by decide)
  have h2 := pick2_bd 3 7 h1
  have h3 := nx_bd (nx dr 2).2 (k := (([3, 7] : List Int).getD (nx dr 2).1.toNat 0)) (by rcases h2.1 with e | e <;> rw [e] <;> decide)
  have hk : 0 < (([3, 7] : List Int).getD (nx dr 2).1.toNat 0) ∧ (([3, 7] : List Int).getD (nx dr 2).1.toNat 0) ≤ 7 := by rcases h2.1 with e | e <;> rw [e] <;> decide
  refine WSs.cons (WS.for (WI.range1 (WA.cons (WE.cal G__law_next (hr.mono (by first | decide | omega)) (WA.cons (WE.var 0 rfl (WA.cons (WE.ix (WE.lst (WA.cons (WE.int (WA.cons (WE.int (WA.nil ⟨by show 2 ≤ sizeLine; exact sz (by decide), (WE.cal G__law_next (hr.mono (by first | decide | omega)) (WA.cons (WE.var 0 rfl (WA.cons (WE.int (WA.nil ⟨dr, R ++ [.lst []] ++ [.lst [.int 3, .int 7]], 2, rfl, rfl, by decide, by decide, (IW.list (xs := [.int 3, .int 7]) (by simp [dS]) h2.2 (WA.nil ⟨(nx dr 2).2, R ++ [.lst []] ++ [.lst [.int 3, .int 7]], _, rfl, rfl, hk.1, by omega, (WA.nil ⟨_, rfl, by omega, by omega, ?_⟩)⟩))⟩))))))⟩)))))))))))) B.range) PassesOwn.never rfl)
  generalize hn : (nx (nx dr 2).2 (([3, 7] : List Int).getD (nx dr 2).1.toNat 0)).1.toNat = n at *
  generalize hd1 : (nx (nx dr 2).2 (([3, 7] : List Int).getD (nx dr 2).1.toNat 0)).2 = dr1 at *
  have hdc : dClaims dr = dMap dClaim (List.range n) dr1 := by
    show dMap dClaim (List.range (nx (nx dr 2).2 (([3, 7] : List Int).getD (nx dr 2).1.toNat 0)).1.toNat) (nx (nx dr 2).2 (([3, 7] : List Int).getD (nx dr 2).1.toNat 0)).2 = _
    rw [hn, hd1]
  have hn7 : n ≤ 7 := by omega
  refine ⟨fun i v2 S2 => S2 = dS (dMap dClaim (List.range i) dr1).2 (R ++ [.lst ((dMap dClaim (List.range i) dr1).1.map eC), .lst [.int 3, .int 7]]) ∧ ∃ z2 z3 z4 z5, v2 = [some (.loc 1), some (.loc (R.length + 2)), z2, z3, z4, z5], ⟨by simp [dMap, dS], none, none, none, none, rfl⟩, fun _ _ _ _ _ => trivial, ?_, ?_⟩
  · rintro i d v2 S2 hd ⟨rfl, z2, z3, z4, z5, rfl⟩
    obtain ⟨hi, rfl⟩ := rngD_get.mp hd
    generalize he : dMap dClaim (List.range i) dr1 = st at *
    obtain ⟨cl, dr2⟩ := st
    have hcl : cl.length = i := by have := dMap_len dClaim (List.range i) dr1; rw [he, List.length_range] at this; exact this
    refine WG.name 2 ?_ sc__law_claims.nd
    refine WSs.cons (WS.set 3 (WE.cal G__law_marks (hr.mono (by first | decide | omega)) (WA.cons (WE.var 0 rfl (WA.nil ⟨dr2, _, rfl, rfl, ?_⟩)))) sc__law_claims.nd)
    have b1 : belS (R.length + 4) R := belS_mono (by show R.length + 2 ≤ _; omega) (bel_dR bS)
    have bR : ∀ (cs' : List (List Int × Int)) (dr' : Dr), belS (dS dr' (R ++ [Ob.lst (cs'.map eC), Ob.lst [D.int 3, D.int 7]])).length (dS dr' (R ++ [Ob.lst (cs'.map eC), Ob.lst [D.int 3, D.int 7]])) := fun cs' dr' => by
      have e : (dS dr' (R ++ [Ob.lst (cs'.map eC), Ob.lst [D.int 3, D.int 7]])).length = R.length + 4 := by simp [dS]
      rw [e]
      refine belS_cons (belInts _) (belS_cons ?_ (belS_append b1 (belS_cons (belAll_map bel_eC _) (belS_cons rfl belS_nil))))
      show (true && (decide (0 < R.length + 4) && (true && true))) = true
      simp
    refine WSs.cons (WS.set 4 (WE.callT (WA.cons (WE.lcN 5 [("_law_mark", 5)] (WI.tup (WE.var 3 rfl ⟨(dMarks dr2).1.map D.int, rfl, ?_⟩)) (by decide) rfl sc__law_claims.nd (blkOk_by (N := N__law_claims) (sc := defScope s__law_claims) (by decide +kernel))
        (fun Y hY => by obtain ⟨_, _, _, _, _, rfl⟩ := hY; exact pg_name sc__law_claims.nd rfl (Or.inl rfl)))) B.tuple boot_tuple) sc__law_claims.nd)
    refine lc_draw D.int D.int dWant (dMarks dr2).1 (fun _ _ => rfl) (bR cl _) (by rw [(dMarks_ok dr2).1]; decide) (fun _ _ => trivial) ?_ ?_
    · intro b dr' acc hb
      refine ⟨_, rfl, fun Y hY => ?_⟩
      obtain ⟨_, _, _, _, _, rfl⟩ := hY
      refine WE.ite (WT.cmp (WE.cal G__law_next (hr.mono (by first | decide | omega)) (WA.cons (WE.var 0 rfl (WA.cons (WE.int (WA.nil ⟨dr', _ ++ [.lst acc], 2, rfl, rfl, by decide, by decide, (WE.int (BW.eqI ⟨_, rfl, ⟨fun h => ?_, fun h => ?_⟩⟩))⟩)))))))
      · have h0 : (nx dr' 2).1 = 0 := of_decide_eq_true h
        refine WE.var 5 rfl ⟨?_, [], ?_⟩
        · show D.int b = .int (if (nx dr' 2).1 = 0 then b else -1)
          rw [if_pos h0]
        · simp [dS, dWant]
      · have h0 : ¬ (nx dr' 2).1 = 0 := of_decide_eq_false h
        refine WE.un (WE.int (UW.neg ⟨?_, [], ?_⟩))
        · show D.int (-1) = .int (if (nx dr' 2).1 = 0 then b else -1)
          rw [if_neg h0]
        · simp [dS, dWant]
    · refine WA.nil (CW.tupL (xs := (dMap dWant (dMarks dr2).1 (dMarks dr2).2).1.map D.int) (by simp [dS]) ?_)
      generalize hw : dMap dWant (dMarks dr2).1 (dMarks dr2).2 = wt
      obtain ⟨want, dr4⟩ := wt
      have g1 := nx_bd dr4 (k := 2) (by decide)
      have g2 := pick2_bd 2 10 g1
      have gk : 0 < (([2, 10] : List Int).getD (nx dr4 2).1.toNat 0) ∧ (([2, 10] : List Int).getD (nx dr4 2).1.toNat 0) ≤ 10 := by rcases g2.1 with e | e <;> rw [e] <;> decide
      refine WSs.one (WS.expr (WE.bm PySem.F.plainAttrs_list PySem.F.slot_list_append PySem.F.type_list_append (WE.var 1 rfl ⟨?_, (WA.cons (WE.tup (WA.cons (WE.var 4 rfl (WA.cons (WE.cal G__law_next (hr.mono (by first | decide | omega)) (WA.cons (WE.var 0 rfl (WA.cons (WE.ix (WE.lst (WA.cons (WE.int (WA.cons (WE.int (WA.nil ⟨by show 2 ≤ sizeLine; exact sz (by decide), (WE.cal G__law_next (hr.mono (by first | decide | omega)) (WA.cons (WE.var 0 rfl (WA.cons (WE.int (WA.nil ⟨dr4, R ++ [.lst (cl.map eC), .lst [.int 3, .int 7]] ++ [.lst (want.map D.int)] ++ [.lst [.int 2, .int 10]], 2, rfl, rfl, by decide, by decide, (IW.list (xs := [.int 2, .int 10]) (by simp [dS]) g2.2 (WA.nil ⟨(nx dr4 2).2, R ++ [.lst (cl.map eC), .lst [.int 3, .int 7]] ++ [.lst (want.map D.int)] ++ [.lst [.int 2, .int 10]], _, rfl, rfl, gk.1, by omega, (WA.nil ⟨by show 2 ≤ sizeLine; exact sz (by decide), (WA.nil (MW.append (xs := cl.map eC) (by simp [dS]) (by rw [List.length_map, hcl]; exact szl (by omega)) ?_))⟩)⟩))⟩))))))⟩))))))))))))))))⟩)))
      · exact Or.inl ⟨rfl, cl.map eC, by simp [dS]⟩
      · have ec : dMap dClaim (List.range (i + 1)) dr1 = (cl ++ [(want, (nx (nx dr4 2).2 (([2, 10] : List Int).getD (nx dr4 2).1.toNat 0)).1)], (nx (nx dr4 2).2 (([2, 10] : List Int).getD (nx dr4 2).1.toNat 0)).2) := by
          rw [List.range_succ, dMap_snoc, he]
          show (cl ++ [(dClaim i dr2).1], (dClaim i dr2).2) = _
          have : dClaim i dr2 = ((want, (nx (nx dr4 2).2 (([2, 10] : List Int).getD (nx dr4 2).1.toNat 0)).1), (nx (nx dr4 2).2 (([2, 10] : List Int).getD (nx dr4 2).1.toNat 0)).2) := by
            unfold dClaim
            simp only [hw]
          rw [this]
        generalize nx (nx dr4 2).2 (([2, 10] : List Int).getD (nx dr4 2).1.toNat 0) = r5 at *
        have es : (dS r5.2 (R ++ [.lst (cl.map eC), .lst [.int 3, .int 7]] ++ [.lst (want.map D.int)] ++ [.lst [.int 2, .int 10]])).set (R.length + 2) (.lst (cl.map eC ++ [.tup [.tup (want.map D.int), .int r5.1]])) =
            dS r5.2 (R ++ [.lst ((cl ++ [(want, r5.1)]).map eC), .lst [.int 3, .int 7]]) ++ [.lst (want.map D.int), .lst [.int 2, .int 10]] := by
          have := set_dR (dr := r5.2) (R := R) (G := [.lst [.int 3, .int 7], .lst (want.map D.int), .lst [.int 2, .int 10]]) (o := .lst (cl.map eC)) (u := .lst (cl.map eC ++ [.tup [.tup (want.map D.int), .int r5.1]]))
          simp only [List.append_assoc, List.cons_append, List.nil_append]
          rw [this]
          simp [dS, eC, eM]
        show WkE _ _ ((dS r5.2 (R ++ [.lst (cl.map eC), .lst [.int 3, .int 7]] ++ [.lst (want.map D.int)] ++ [.lst [.int 2, .int 10]])).set (R.length + 2) (.lst (cl.map eC ++ [.tup [.tup (want.map D.int), .int r5.1]]))) _
        rw [es]
        refine ⟨_, _, CovE.drop (v2 := [some (.loc 1), some (.loc (R.length + 2)), none, none, none, none]) ?_ (bR _ _) ?_ ?_, by rw [ec], _, _, _, _, rfl⟩
        · simp [dS]
        · exact lessK (lessK (lessS (lessS (lessS (lessS lessN)))))
        · exact belY (bel_loc (by rw [dS_len]; omega)) (belY (bel_loc (by rw [dS_len]; simp)) (belZ (belZ (belZ (belZ belN)))))
  · rintro v2 S2 ⟨rfl, z2, z3, z4, z5, rfl⟩
    have en : (Src.items ⟨rngD 0 n, fun _ => True⟩).length = n := rngD_len
    rw [en, ← hdc]
    refine WSs.one (WS.ret (WE.callT (WA.cons (WE.var 1 rfl (WA.nil (CW.tupL (xs := (dClaims dr).1.map eC) (by simp [dS]) ?_)))) B.tuple boot_tuple))
    exact ⟨_, _, cov_dS (dr' := (dClaims dr).2) (G := [.lst ((dClaims dr).1.map eC), .lst [.int 3, .int 7]]) bS (bel_eCs _), q⟩
end

section
variable {P : Program} {w : World} {K : PySem.W.Frag} {mg : Str → Option Value} {base : Heap} {f : Addr}
abbrev N__law_alike : List Str := ["_law_found", "_law_due", "_law_k"]
theorem sc__law_alike : FnScope N__law_alike ["_law_found", "_law_due"] (defScope s__law_alike) := ⟨rfl, rfl, rfl, by decide +kernel, rfl, by decide +kernel, by decide +kernel⟩
theorem bd__law_alike : BindOk "_law_alike" "_law_alike" s__law_alike ["_law_found", "_law_due"] := fun _ _ _ _ _ _ us hl => match us, hl with | [_, _], _ => rfl
def sp__law_alike (n : Nat) : SpD := fun ds S Q => ∃ x y p, ds = [x, y] ∧ PD S x p ∧ PD S y p ∧ okP n p = true ∧ Q (.bl true) S
abbrev C__law_alike (P : Program) (w : World) (K : PySem.W.Frag) (mg : Str → Option Value) (base : Heap) (n : Nat) : Prop := Cal P w K mg base "_law_alike" (n + 1) ["_law_found", "_law_due"] (sp__law_alike n)
theorem body__law_alike (B : Bt mg) (n : Nat) (G : ∀ m, n = m + 1 → C__law_alike P w K mg base m) : BodyOk P w K mg base N__law_alike "_law_alike" s__law_alike f n (sp__law_alike n) := by
  rintro cdv A outer s H E ds S Q hr bS bD ⟨x, y, p, rfl, hx, hy, ok, q⟩
  have done : WkD S.length (.bl true) S Q := WkD.same q
  have deep : ∀ (xs ys : List D) (ps : List PyData), PDs S xs ps → PDs S ys ps → (∃ m, n = m + 1 ∧ ps.length ≤ 100000 ∧ ∀ p ∈ ps, okP m p = true) →
      (∀ (Y : Cx) (S2 : Store) (Q2 : D → Store → Prop) (i : Nat) (d : D), (∃ G, S2 = S ++ G) → xs[i]? = some d → Q2 d S2 → IW Y x (.int (i : Int)) S2 Q2) →
      (∀ (Y : Cx) (S2 : Store) (Q2 : D → Store → Prop) (i : Nat) (d : D), (∃ G, S2 = S ++ G) → ys[i]? = some d → Q2 d S2 → IW Y y (.int (i : Int)) S2 Q2) →
      (∀ (Y : Cx) (Q2 : D → Store → Prop), Q2 (.int xs.length) S → CW Y (.builtin "len") [x] S Q2) → (∀ (Y : Cx) (Q2 : D → Store → Prop), Q2 (.int ys.length) S → CW Y (.builtin "len") [y] S Q2) →
      ∀ E' : Ed, E'.rt = (fnEnds S.length Q).rt → WSs (cxOf CX0 P w K mg base N__law_alike "_law_alike" (defScope s__law_alike) f cdv A outer s H E).nox S.length (match (defBody s__law_alike) with | (.If _ b _ _) :: _ => b.drop 1 | _ => []) (startD N__law_alike [x, y]) S E' := by
    rintro xs ys ps hxs hys ⟨m, hn, hlen, hall⟩ ix iy lx ly E' hE
    have lxs := hxs.len
    have lys := hys.len
    refine WSs.cons (WS.ite (WT.cmp (WE.callB (WA.cons (WE.var 0 rfl (WA.nil (lx _ _ (WE.callB (WA.cons (WE.var 1 rfl (WA.nil (ly _ _ (BW.neI ⟨_, rfl, ⟨fun h => ?_, fun h => WSs.nil ?_⟩⟩))))) B.len PySem.boot_len))))) B.len PySem.boot_len)))
    · exfalso
      rw [lxs, lys] at h
      simp at h
    refine WSs.one (WS.ret (WE.cmp (WE.lcN 2 [("_law_k", 2)] (WI.range1 (WA.cons (WE.callB (WA.cons (WE.var 1 rfl (WA.nil (ly _ _ (WA.nil ⟨_, rfl, by omega, by omega, ?_⟩))))) B.len PySem.boot_len)) B.range) (by decide) rfl sc__law_alike.nd (blkOk_by (N := N__law_alike) (sc := defScope s__law_alike) (by decide +kernel))
        (fun Y hY => by obtain ⟨_, _, _, _, _, rfl⟩ := hY; exact pg_name sc__law_alike.nd rfl (Or.inl rfl)))))
    have e1 : ((ys.length : Nat) : Int).toNat = ys.length := by omega
    rw [e1]
    refine lc_pure (fun _ => none) bS (by show (rngD 0 ys.length).length ≤ 100000; rw [rngD_len]; omega) (fun _ => trivial) ?_ ?_
    · intro j d acc hd
      obtain ⟨hj, rfl⟩ := rngD_get.mp hd
      rw [Int.zero_add]
      have hp : ps[j]? = some ps[j] := List.getElem?_eq_getElem (by omega)
      obtain ⟨xj, hxj, pxj⟩ := hxs.get hp
      obtain ⟨yj, hyj, pyj⟩ := hys.get hp
      have G__law_alike := G m hn
      refine ⟨_, rfl, fun Y hY => ?_⟩
      obtain ⟨_, _, _, _, _, rfl⟩ := hY
      refine WT.not (WT.val (WE.cal (G m hn) (hr.mono (by omega)) (WA.cons (WE.ix (WE.var 0 rfl (WE.var 2 rfl ?_))))))
      refine ix _ _ _ j xj ⟨_, rfl⟩ hxj (WA.cons (WE.ix (WE.var 1 rfl (WE.var 2 rfl ?_))))
      refine iy _ _ _ j yj ⟨_, rfl⟩ hyj (WA.nil ⟨xj, yj, ps[j], rfl, PD.app _ _ _ pxj, PD.app _ _ _ pyj, hall _ (List.getElem_mem _), true, rfl, ⟨[], by simp⟩, fun hb => (by cases hb), fun _ => rfl⟩)
    · rw [filterMap_nil fun _ _ => rfl]
      refine WE.lst (WA.nil ⟨by show 0 ≤ sizeLine; exact sz (by decide), ?_⟩)
      refine BW.eqL (xs := []) (ys := []) (by simp) (by simp) (fun _ h => by cases h) (fun _ h => by cases h) hr.units ?_
      show E'.rt _ _
      rw [hE]
      exact ⟨_, S, by rw [List.append_assoc]; exact CovD.drop bS rfl, q⟩
  cases p with
  | tuple ps =>
    obtain ⟨m, hn, k1, k2⟩ : ∃ m, n = m + 1 ∧ ps.length ≤ 100000 ∧ ∀ p ∈ ps, okP m p = true := by
      cases n with
      | zero => simp [okP] at ok
      | succ m =>
        have ok' : (decide (ps.length ≤ 100000) && ps.all (okP m)) = true := ok
        rw [Bool.and_eq_true, decide_eq_true_eq, List.all_eq_true] at ok'
        exact ⟨m, rfl, ok'⟩
    cases hx with
    | @tup xs _ hxs =>
    cases hy with
    | @tup ys _ hys =>
    refine WSs.cons (WS.ite (WT.val (WE.callB (WA.cons (WE.var 1 rfl (WA.cons (WE.tup (WA.cons (WE.bty B.tuple boot_tuple (WA.cons (WE.bty B.list boot_list (WA.nil ⟨by show 2 ≤ sizeLine; exact sz (by decide), (WA.nil (CW.isi2 rfl kit_tup_tuple kit_tup_list ⟨_, rfl, (iT ?_)⟩))⟩))))))))) B.isinstance boot_isinstance)))
    refine WSs.cons (WS.ite (WT.bool (WP.or (WT.not (WT.val (WE.callB (WA.cons (WE.var 0 rfl (WA.cons (WE.tup (WA.cons (WE.bty B.tuple boot_tuple (WA.cons (WE.bty B.list boot_list (WA.nil ⟨by show 2 ≤ sizeLine; exact sz (by decide), (WA.nil (CW.isi2 rfl kit_tup_tuple kit_tup_list ⟨_, rfl, ⟨fun h1 => iT ?_, fun h1 => (WP.or1 (WT.cmp (WE.callB (WA.cons (WE.var 0 rfl (WA.cons (WE.bty B.list boot_list (WA.nil (CW.isi rfl kit_tup_list (WE.callB (WA.cons (WE.var 1 rfl (WA.cons (WE.bty B.list boot_list (WA.nil (CW.isi rfl kit_tup_list (BW.neB ⟨_, rfl, (iF (WSs.nil ?_))⟩))))))) B.isinstance boot_isinstance))))))) B.isinstance boot_isinstance)))⟩⟩))⟩))))))))) B.isinstance boot_isinstance))))))
    · cases h1
    · exact deep xs ys ps hxs hys ⟨m, hn, k1, k2⟩ (fun Y S2 Q2 i d _ hd h => IW.tup (atI_nat hd) h) (fun Y S2 Q2 i d _ hd h => IW.tup (atI_nat hd) h) (fun Y Q2 h => CW.lenT h) (fun Y Q2 h => CW.lenT h) _ rfl
  | list ps =>
    obtain ⟨m, hn, k1, k2⟩ : ∃ m, n = m + 1 ∧ ps.length ≤ 100000 ∧ ∀ p ∈ ps, okP m p = true := by
      cases n with
      | zero => simp [okP] at ok
      | succ m =>
        have ok' : (decide (ps.length ≤ 100000) && ps.all (okP m)) = true := ok
        rw [Bool.and_eq_true, decide_eq_true_eq, List.all_eq_true] at ok'
        exact ⟨m, rfl, ok'⟩
    cases hx with
    | @lst l xs _ hl hxs =>
    cases hy with
    | @lst l' ys _ hl' hys =>
    have tx : tyName (.loc l) S = some "list" := by simp [tyName, hl]
    have ty : tyName (.loc l') S = some "list" := by simp [tyName, hl']
    refine WSs.cons (WS.ite (WT.val (WE.callB (WA.cons (WE.var 1 rfl (WA.cons (WE.tup (WA.cons (WE.bty B.tuple boot_tuple (WA.cons (WE.bty B.list boot_list (WA.nil ⟨by show 2 ≤ sizeLine; exact sz (by decide), (WA.nil (CW.isi2 ty kit_lst_tuple kit_lst_list ⟨_, rfl, (iT ?_)⟩))⟩))))))))) B.isinstance boot_isinstance)))
    refine WSs.cons (WS.ite (WT.bool (WP.or (WT.not (WT.val (WE.callB (WA.cons (WE.var 0 rfl (WA.cons (WE.tup (WA.cons (WE.bty B.tuple boot_tuple (WA.cons (WE.bty B.list boot_list (WA.nil ⟨by show 2 ≤ sizeLine; exact sz (by decide), (WA.nil (CW.isi2 tx kit_lst_tuple kit_lst_list ⟨_, rfl, ⟨fun h1 => iT ?_, fun h1 => (WP.or1 (WT.cmp (WE.callB (WA.cons (WE.var 0 rfl (WA.cons (WE.bty B.list boot_list (WA.nil (CW.isi tx kit_lst_list (WE.callB (WA.cons (WE.var 1 rfl (WA.cons (WE.bty B.list boot_list (WA.nil (CW.isi ty kit_lst_list (BW.neB ⟨_, rfl, (iF (WSs.nil ?_))⟩))))))) B.isinstance boot_isinstance))))))) B.isinstance boot_isinstance)))⟩⟩))⟩))))))))) B.isinstance boot_isinstance))))))
    · cases h1
    · have dd := deep xs ys ps hxs hys ⟨m, hn, k1, k2⟩ (fun Y S2 Q2 i d ⟨G, e⟩ hd h => by subst e; exact IW.list (get_app hl) (atI_nat hd) h) (fun Y S2 Q2 i d ⟨G, e⟩ hd h => by subst e; exact IW.list (get_app hl') (atI_nat hd) h) (fun Y Q2 h => CW.lenL hl h) (fun Y Q2 h => CW.lenL hl' h)
      exact dd _ rfl
  | none =>
    cases hx; cases hy
    refine WSs.cons (WS.ite (WT.val (WE.callB (WA.cons (WE.var 1 rfl (WA.cons (WE.tup (WA.cons (WE.bty B.tuple boot_tuple (WA.cons (WE.bty B.list boot_list (WA.nil ⟨by show 2 ≤ sizeLine; exact sz (by decide), (WA.nil (CW.isi2 rfl kit_non_tuple kit_non_list ⟨_, rfl, (iF (WSs.nil ?_))⟩))⟩))))))))) B.isinstance boot_isinstance)))
    refine WSs.cons (WS.ite (WT.cmp (WE.var 1 rfl (WE.non (BW.isN true rfl ⟨_, rfl, (iT ?_)⟩)))))
    exact WSs.one (WS.ret (WE.cmp (WE.var 0 rfl (WE.non (BW.isN true rfl done)))))
  | str z =>
    cases hx; cases hy
    refine WSs.cons (WS.ite (WT.val (WE.callB (WA.cons (WE.var 1 rfl (WA.cons (WE.tup (WA.cons (WE.bty B.tuple boot_tuple (WA.cons (WE.bty B.list boot_list (WA.nil ⟨by show 2 ≤ sizeLine; exact sz (by decide), (WA.nil (CW.isi2 rfl kit_str_tuple kit_str_list ⟨_, rfl, (iF (WSs.nil ?_))⟩))⟩))))))))) B.isinstance boot_isinstance)))
    refine WSs.cons (WS.ite (WT.cmp (WE.var 1 rfl (WE.non (BW.isN false rfl ⟨_, rfl, (iF (WSs.nil ?_))⟩)))))
    refine WSs.cons (WS.ite (WT.val (WE.callB (WA.cons (WE.var 1 rfl (WA.cons (WE.bty B.str boot_str (WA.nil (CW.isi rfl kit_str_str ⟨_, rfl, (iT ?_)⟩)))))) B.isinstance boot_isinstance)))
    refine WSs.one (WS.ret (WE.and (WE.callB (WA.cons (WE.var 0 rfl (WA.cons (WE.bty B.str boot_str (WA.nil (CW.isi rfl kit_str_str ⟨_, rfl, fun h1 => (WE.one (WE.cmp (WE.var 0 rfl (WE.var 1 rfl (BW.eqS ?_))))), fun h1 => ?_⟩)))))) B.isinstance boot_isinstance)))
    · rw [decide_eq_true rfl]; exact done
    · cases h1
  | int i =>
    cases hx; cases hy
    refine WSs.cons (WS.ite (WT.val (WE.callB (WA.cons (WE.var 1 rfl (WA.cons (WE.tup (WA.cons (WE.bty B.tuple boot_tuple (WA.cons (WE.bty B.list boot_list (WA.nil ⟨by show 2 ≤ sizeLine; exact sz (by decide), (WA.nil (CW.isi2 rfl kit_int_tuple kit_int_list ⟨_, rfl, (iF (WSs.nil ?_))⟩))⟩))))))))) B.isinstance boot_isinstance)))
    refine WSs.cons (WS.ite (WT.cmp (WE.var 1 rfl (WE.non (BW.isN false rfl ⟨_, rfl, (iF (WSs.nil ?_))⟩)))))
    refine WSs.cons (WS.ite (WT.val (WE.callB (WA.cons (WE.var 1 rfl (WA.cons (WE.bty B.str boot_str (WA.nil (CW.isi rfl kit_int_str ⟨_, rfl, (iF (WSs.nil ?_))⟩)))))) B.isinstance boot_isinstance)))
    refine WSs.cons (WS.ite (WT.bool (WP.or (WT.val (WE.callB (WA.cons (WE.var 1 rfl (WA.cons (WE.bty B.bool boot_bool (WA.nil (CW.isi rfl kit_int_bool ⟨_, rfl, ⟨fun h1 => iT ?_, fun h1 => (WP.or1 (WT.val (WE.callB (WA.cons (WE.var 0 rfl (WA.cons (WE.bty B.bool boot_bool (WA.nil (CW.isi rfl kit_int_bool ⟨_, rfl, (iF (WSs.nil ?_))⟩)))))) B.isinstance boot_isinstance)))⟩⟩)))))) B.isinstance boot_isinstance)))))
    · cases h1
    refine WSs.one (WS.ret (WE.and (WE.callB (WA.cons (WE.var 0 rfl (WA.cons (WE.bty B.int boot_int (WA.nil (CW.isi rfl kit_int_int ⟨_, rfl, fun h1 => (WE.one (WE.cmp (WE.var 0 rfl (WE.var 1 rfl (BW.eqI ?_))))), fun h1 => ?_⟩)))))) B.isinstance boot_isinstance)))
    · rw [decide_eq_true rfl]; exact done
    · cases h1
  | bool b =>
    cases hx; cases hy
    refine WSs.cons (WS.ite (WT.val (WE.callB (WA.cons (WE.var 1 rfl (WA.cons (WE.tup (WA.cons (WE.bty B.tuple boot_tuple (WA.cons (WE.bty B.list boot_list (WA.nil ⟨by show 2 ≤ sizeLine; exact sz (by decide), (WA.nil (CW.isi2 rfl kit_bl_tuple kit_bl_list ⟨_, rfl, (iF (WSs.nil ?_))⟩))⟩))))))))) B.isinstance boot_isinstance)))
    refine WSs.cons (WS.ite (WT.cmp (WE.var 1 rfl (WE.non (BW.isN false rfl ⟨_, rfl, (iF (WSs.nil ?_))⟩)))))
    refine WSs.cons (WS.ite (WT.val (WE.callB (WA.cons (WE.var 1 rfl (WA.cons (WE.bty B.str boot_str (WA.nil (CW.isi rfl kit_bl_str ⟨_, rfl, (iF (WSs.nil ?_))⟩)))))) B.isinstance boot_isinstance)))
    refine WSs.cons (WS.ite (WT.bool (WP.or (WT.val (WE.callB (WA.cons (WE.var 1 rfl (WA.cons (WE.bty B.bool boot_bool (WA.nil (CW.isi rfl kit_bl_bool ⟨_, rfl, ⟨fun h1 => iT ?_, fun h1 => (WP.or1 (WT.val (WE.callB (WA.cons (WE.var 0 rfl (WA.cons (WE.bty B.bool boot_bool (WA.nil (CW.isi rfl kit_bl_bool ⟨_, rfl, ?_⟩)))))) B.isinstance boot_isinstance)))⟩⟩)))))) B.isinstance boot_isinstance)))))
    · refine WSs.one (WS.ret (WE.and (WE.callB (WA.cons (WE.var 1 rfl (WA.cons (WE.bty B.bool boot_bool (WA.nil (CW.isi rfl kit_bl_bool ⟨_, rfl, fun h1 => (WE.and (WE.callB (WA.cons (WE.var 0 rfl (WA.cons (WE.bty B.bool boot_bool (WA.nil (CW.isi rfl kit_bl_bool ⟨_, rfl, fun h2 => (WE.one (WE.cmp (WE.var 0 rfl (WE.var 1 rfl (BW.eqB ?_))))), fun h2 => ?_⟩)))))) B.isinstance boot_isinstance)), fun h1 => ?_⟩)))))) B.isinstance boot_isinstance)))
      · rw [decide_eq_true rfl]; exact done
      · cases h2
      · cases h1
    · cases h1
  | dict kvs => cases hx
theorem c__law_alike (B : Bt mg) (df : Df K "_law_alike" "_law_alike" s__law_alike f) (hm : mg "_law_alike" = some (.ref f)) (n : Nat) : C__law_alike P w K mg base n := by
  induction n with
  | zero => exact calD df hm sc__law_alike bd__law_alike (fun ds S Q ⟨x, y, p, e, _⟩ => by rw [e]; rfl) (body__law_alike B 0 fun m e => by cases e)
  | succ n ih => exact calD df hm sc__law_alike bd__law_alike (fun ds S Q ⟨x, y, p, e, _⟩ => by rw [e]; rfl) (body__law_alike B (n + 1) fun m e => by cases e; exact ih)
end

section
variable {P : Program} {w : World} {K : PySem.W.Frag} {mg : Str → Option Value} {base : Heap} {f : Addr}
abbrev N_fit : List Str := ["claims", "marks"]
theorem sc_fit : FnScope N_fit ["claims", "marks"] (defScope s_fit) := ⟨rfl, rfl, rfl, by decide +kernel, rfl, by decide +kernel, by decide +kernel⟩
theorem bd_fit : BindOk "fit" "fit" s_fit ["claims", "marks"] := fun _ _ _ _ _ _ us hl => match us, hl with | [_, _], _ => rfl
def sp_fit : SpD := fun ds S Q => ∃ cs m, ds = [eCs cs, eM m] ∧ OkCs cs ∧ OkM 0 m ∧ Q (eO (fitOf cs m)) S
abbrev C_fit (P : Program) (w : World) (K : PySem.W.Frag) (mg : Str → Option Value) (base : Heap) : Prop := Cal P w K mg base "fit" 5 ["claims", "marks"] sp_fit
theorem c_fit (G_need_claims : C_need_claims P w K mg base) (G_need_marks : C_need_marks P w K mg base) (G_fit_of : C_fit_of P w K mg base) (df : Df K "fit" "fit" s_fit f) (hm : mg "fit" = some (.ref f)) : C_fit P w K mg base := by
  refine calD df hm sc_fit bd_fit (fun ds S Q ⟨cs, m, e, _⟩ => by rw [e]; rfl) ?_
  rintro cdv A outer s H E ds S Q hr bS bD ⟨cs, m, rfl, hcs, hmo, q⟩
  have hm3 := hmo.1
  refine WSs.cons (WS.expr (WE.cal G_need_claims (hr.mono (by first | decide | omega)) (WA.cons (WE.var 0 rfl (WA.nil ⟨cs.map eC, rfl, pu_eCs (n := 17) hcs, by rw [List.length_map]; exact hcs.1, fun x hx => by obtain ⟨c, hc, rfl⟩ := List.mem_map.mp hx; exact claimOk_e (hcs.2 c hc), ?_⟩)))))
  refine WSs.cons (WS.expr (WE.cal G_need_marks (hr.mono (by first | decide | omega)) (WA.cons (WE.var 1 rfl (WA.nil ⟨eM m, rfl, pu_eM (n := 19) (by omega), marksOk_e hmo, ?_⟩)))))
  exact WSs.one (WS.ret (WE.cal G_fit_of (hr.mono (by first | decide | omega)) (WA.cons (WE.var 0 rfl (WA.cons (WE.var 1 rfl (WA.nil ⟨cs, m, rfl, by omega, by have := hcs.1; omega, fun c hc => by rw [(hcs.2 c hc).1.1, hm3], (WkD.same q)⟩)))))))
end

section
variable {P : Program} {w : World} {K : PySem.W.Frag} {mg : Str → Option Value} {base : Heap} {f : Addr}
abbrev N__law_fit : List Str := ["_law_claims_here", "_law_marks_here", "_law_best", "_law_wanted", "_law_worth", "_law_many", "_law_k"]
theorem sc__law_fit : FnScope N__law_fit ["_law_claims_here", "_law_marks_here"] (defScope s__law_fit) := ⟨rfl, rfl, rfl, by decide +kernel, rfl, by decide +kernel, by decide +kernel⟩
theorem bd__law_fit : BindOk "_law_fit" "_law_fit" s__law_fit ["_law_claims_here", "_law_marks_here"] := fun _ _ _ _ _ _ us hl => match us, hl with | [_, _], _ => rfl
def sp__law_fit : SpD := fun ds S Q => ∃ cs m, ds = [eCs cs, eM m] ∧ m.length = 3 ∧ cs.length ≤ 100 ∧ (∀ c ∈ cs, c.1.length = 3) ∧ Q (eO (lawFit cs m)) S
abbrev C__law_fit (P : Program) (w : World) (K : PySem.W.Frag) (mg : Str → Option Value) (base : Heap) : Prop := Cal P w K mg base "_law_fit" 1 ["_law_claims_here", "_law_marks_here"] sp__law_fit
theorem bel_eO (o : Option Int) (n : Nat) : bel n (eO o) = true := by cases o <;> rfl
theorem c__law_fit (B : Bt mg) (df : Df K "_law_fit" "_law_fit" s__law_fit f) (hm : mg "_law_fit" = some (.ref f)) : C__law_fit P w K mg base := by
  refine calD df hm sc__law_fit bd__law_fit (fun ds S Q ⟨cs, m, e, _⟩ => by rw [e]; rfl) ?_
  rintro cdv A outer s H E ds S Q hr bS bD ⟨cs, m, rfl, hm, hcs, hcm, q⟩
  refine WSs.cons (WS.set 2 (WE.non ?_) sc__law_fit.nd)
  refine WSs.cons (WS.for (WI.tup (WE.var 0 rfl ⟨cs.map eC, rfl, ?_⟩)) PassesOwn.never rfl)
  refine ⟨fun i v2 S2 => S2 = S ∧ ∃ z3 z4 z5 z6, v2 = [some (eCs cs), some (eM m), some (eO (lawFit (cs.take i) m)), z3, z4, z5, z6], ⟨rfl, none, none, none, none, rfl⟩, fun _ _ _ _ _ => trivial, ?_, ?_⟩
  · rintro i d v2 S2 hd ⟨e0, z3, z4, z5, z6, rfl⟩
    subst S2
    have hd : (cs.map eC)[i]? = some d := hd
    obtain ⟨c, hci, rfl⟩ : ∃ c, cs[i]? = some c ∧ d = eC c := by
      rw [List.getElem?_map] at hd
      cases e : cs[i]? with
      | none => rw [e] at hd; cases hd
      | some c => rw [e] at hd; exact ⟨c, rfl, (Option.some.inj hd).symm⟩
    have hcl : c.1.length = 3 := hcm c (List.mem_of_getElem? hci)
    have tk : lawFit (cs.take (i + 1)) m = lawStep m (lawFit (cs.take i) m) c := by
      have : cs.take (i + 1) = cs.take i ++ [c] := by rw [List.take_add_one, hci]; rfl
      rw [this, lawFit_snoc]
    generalize lawFit (cs.take i) m = b at *
    refine WG.tup rfl (WGs.cons (WG.name 3 (WGs.cons (WG.name 4 (WGs.nil ?_) sc__law_fit.nd)) sc__law_fit.nd)) rfl
    refine WSs.cons (WS.set 5 (WE.callB (WA.cons (WE.lcN 6 [("_law_k", 6)] (WI.range1 (WA.cons (WE.int (WA.nil ⟨3, rfl, by decide, by decide, ?_⟩))) B.range) (by decide) rfl sc__law_fit.nd (blkOk_by (N := N__law_fit) (sc := defScope s__law_fit) (by decide +kernel))
        (fun Y hY => by obtain ⟨_, _, _, _, _, rfl⟩ := hY; exact pg_name sc__law_fit.nd rfl (Or.inl rfl)))) B.len PySem.boot_len) sc__law_fit.nd)
    refine lc_pure (fun d => match d with | .int k => if decide (c.1.getD k.toNat 0 = m.getD k.toNat 0) then some d else none | _ => none) bS (by decide) (fun _ => trivial) ?_ ?_
    · intro j d acc hd
      obtain ⟨hj, rfl⟩ := rngD_get.mp hd
      have hj : j < 3 := hj
      refine ⟨_, rfl, fun Y hY => ?_⟩
      obtain ⟨_, _, _, _, _, rfl⟩ := hY
      refine (WT.cmp (WE.ix (WE.var 3 rfl (WE.var 6 rfl (IW.tup (d := .int (c.1.getD j 0)) (by rw [Int.zero_add]; exact at_ints (by omega)) (WE.ix (WE.var 1 rfl (WE.var 6 rfl (IW.tup (d := .int (m.getD j 0)) (by rw [Int.zero_add]; exact at_ints (by omega)) (BW.eqI ⟨_, rfl, ⟨⟨[], by simp⟩, fun hb Z hZ => ?_, fun hb => ?_⟩⟩))))))))))
      · obtain ⟨_, _, _, _, _, rfl⟩ := hZ
        refine WE.var 6 rfl ⟨⟨[], by simp⟩, rfl, ?_⟩
        have ej : (0 + (j : Int)).toNat = j := by omega
        simp only [ej, hb, if_true]
      · have ej : (0 + (j : Int)).toNat = j := by omega
        simp only [ej, hb]; rfl
    have e1 : (rngD 0 3).filterMap (fun d => match d with | .int k => if decide (c.1.getD k.toNat 0 = m.getD k.toNat 0) then some d else none | _ => none) = (eqL c.1 m).map fun (k : Nat) => D.int (k : Int) := range_fm (p := fun k => decide (c.1.getD k 0 = m.getD k 0)) fun k hk => by simp
    rw [show (Src.items ⟨rngD 0 ((3 : Int).toNat), fun _ => True⟩) = rngD 0 3 from rfl, e1]
    have bS1 : belS (S.length + 1) (S ++ [Ob.lst ((eqL c.1 m).map fun (k : Nat) => D.int (k : Int))]) := belS_snoc (belS_mono (Nat.le_succ _) bS) (belAll_map (fun _ => rfl) _)
    have lS1 : (S ++ [Ob.lst ((eqL c.1 m).map fun (k : Nat) => D.int (k : Int))]).length = S.length + 1 := by simp
    refine WA.nil (CW.lenL (xs := (eqL c.1 m).map fun (k : Nat) => D.int (k : Int)) (by simp) ?_)
    rw [List.length_map]
    refine WSs.one (WS.ite (WT.bool (WP.and (WT.cmp (WE.var 5 rfl (WE.callB (WA.cons (WE.lcN 6 [("_law_k", 6)] (WI.range1 (WA.cons (WE.int (WA.nil ⟨3, rfl, by decide, by decide, ?_⟩))) B.range) (by decide) rfl sc__law_fit.nd (blkOk_by (N := N__law_fit) (sc := defScope s__law_fit) (by decide +kernel))
        (fun Y hY => by obtain ⟨_, _, _, _, _, rfl⟩ := hY; exact pg_name sc__law_fit.nd rfl (Or.inl rfl)))) B.len PySem.boot_len))))))
    refine lc_pure (fun d => match d with | .int k => if !decide (c.1.getD k.toNat 0 = -1) then some d else none | _ => none) (by rw [lS1]; exact bS1) (by decide) (fun _ => trivial) ?_ ?_
    · intro j d acc hd
      obtain ⟨hj, rfl⟩ := rngD_get.mp hd
      have hj : j < 3 := hj
      refine ⟨_, rfl, fun Y hY => ?_⟩
      obtain ⟨_, _, _, _, _, rfl⟩ := hY
      refine (WT.cmp (WE.ix (WE.var 3 rfl (WE.var 6 rfl (IW.tup (d := .int (c.1.getD j 0)) (by rw [Int.zero_add]; exact at_ints (by omega)) (WE.un (WE.int (UW.neg (BW.neI ⟨_, rfl, ⟨⟨[], by simp⟩, fun hb Z hZ => ?_, fun hb => ?_⟩⟩)))))))))
      · obtain ⟨_, _, _, _, _, rfl⟩ := hZ
        refine WE.var 6 rfl ⟨⟨[], by simp⟩, rfl, ?_⟩
        have ej : (0 + (j : Int)).toNat = j := by omega
        simp only [ej, hb, if_true]
      · have ej : (0 + (j : Int)).toNat = j := by omega
        simp only [ej, hb]; rfl
    have e2 : (rngD 0 3).filterMap (fun d => match d with | .int k => if !decide (c.1.getD k.toNat 0 = -1) then some d else none | _ => none) = (neL c.1).map fun (k : Nat) => D.int (k : Int) := range_fm (p := fun k => !decide (c.1.getD k 0 = -1)) fun k hk => by simp
    rw [show (Src.items ⟨rngD 0 ((3 : Int).toNat), fun _ => True⟩) = rngD 0 3 from rfl, e2]
    refine WA.nil (CW.lenL (xs := (neL c.1).map fun (k : Nat) => D.int (k : Int)) (by simp) ?_)
    rw [List.length_map]
    refine BW.eqI ⟨_, rfl, ?_⟩
    have fin : ∀ (r : Option Int) (z5 : Option D) (G : Store), r = lawFit (cs.take (i + 1)) m → WkE S.length [some (eCs cs), some (eM m), some (eO r), some (eM c.1), some (.int c.2), z5, z6] (S ++ G) fun v4 S4 => S4 = S ∧ ∃ z3 z4 z5 z6, v4 = [some (eCs cs), some (eM m), some (eO (lawFit (cs.take (i + 1)) m)), z3, z4, z5, z6] := fun r z5 G e => by
      subst e
      refine ⟨_, _, CovE.drop (v2 := [some (eCs cs), some (eM m), some (eO (lawFit (cs.take (i + 1)) m)), none, none, none, none]) ?_ bS ?_ ?_, rfl, _, _, _, _, rfl⟩
      · exact Nat.le_refl _
      · exact lessK (lessK (lessK (lessS (lessS (lessS (lessS lessN))))))
      · exact belY (bel_eCs cs) (belY (bel_eM m) (belY (bel_eO _ _) (belZ (belZ (belZ (belZ belN))))))
    refine ⟨fun h1 => ?_, fun h1 => iF (WSs.nil ?_)⟩
    · have hq : (eqL c.1 m).length = (neL c.1).length := by have := of_decide_eq_true h1; omega
      cases b with
      | none =>
        refine WP.and1 (WT.bool (WP.or (WT.cmp (WE.var 2 rfl (WE.non (BW.isN _ rfl ⟨_, rfl, ⟨fun _ => iT ?_, fun h => (by cases h)⟩⟩))))))
        refine WSs.one (WS.set 2 (WE.bin (WE.bin (WE.int (WE.var 4 rfl (BW.mul (by first | exact .inr ⟨by decide, by decide⟩ | exact .inl ⟨by decide, by decide⟩) (WE.var 5 rfl (BW.add ?_))))))) sc__law_fit.nd)
        have := fin (some (10 * c.2 + (eqL c.1 m).length)) (some (.int (eqL c.1 m).length)) [.lst ((eqL c.1 m).map fun (k : Nat) => D.int (k : Int)), .lst ((neL c.1).map fun (k : Nat) => D.int (k : Int))] (by rw [tk]; unfold lawStep; rw [if_pos hq])
        simpa [eO, D.ofO] using this
      | some x =>
        refine WP.and1 (WT.bool (WP.or (WT.cmp (WE.var 2 rfl (WE.non (BW.isN _ rfl ⟨_, rfl, ⟨fun h => (by cases h), fun _ => WP.or1 ?_⟩⟩))))))
        refine (WT.cmp (WE.bin (WE.bin (WE.int (WE.var 4 rfl (BW.mul (by first | exact .inr ⟨by decide, by decide⟩ | exact .inl ⟨by decide, by decide⟩) (WE.var 5 rfl (BW.add (WE.var 2 rfl (BW.gt ⟨_, rfl, ⟨fun h => ?_, fun h => WSs.nil ?_⟩⟩))))))))))
        · have hx : x < 10 * c.2 + (eqL c.1 m).length := of_decide_eq_true h
          refine WSs.one (WS.set 2 (WE.bin (WE.bin (WE.int (WE.var 4 rfl (BW.mul (by first | exact .inr ⟨by decide, by decide⟩ | exact .inl ⟨by decide, by decide⟩) (WE.var 5 rfl (BW.add ?_))))))) sc__law_fit.nd)
          have := fin (some (10 * c.2 + (eqL c.1 m).length)) (some (.int (eqL c.1 m).length)) [.lst ((eqL c.1 m).map fun (k : Nat) => D.int (k : Int)), .lst ((neL c.1).map fun (k : Nat) => D.int (k : Int))] (by rw [tk]; unfold lawStep; simp only [if_pos hq, if_pos hx])
          simpa [eO, D.ofO] using this
        · have hx : ¬ x < 10 * c.2 + (eqL c.1 m).length := of_decide_eq_false h
          have := fin (some x) (some (.int (eqL c.1 m).length)) [.lst ((eqL c.1 m).map fun (k : Nat) => D.int (k : Int)), .lst ((neL c.1).map fun (k : Nat) => D.int (k : Int))] (by rw [tk]; unfold lawStep; simp only [if_pos hq, if_neg hx])
          simpa [eO, D.ofO] using this
    · have hq : ¬ (eqL c.1 m).length = (neL c.1).length := by have := of_decide_eq_false h1; omega
      have := fin b (some (.int (eqL c.1 m).length)) [.lst ((eqL c.1 m).map fun (k : Nat) => D.int (k : Int)), .lst ((neL c.1).map fun (k : Nat) => D.int (k : Int))] (by rw [tk]; unfold lawStep; rw [if_neg hq])
      simpa using this
  · rintro v2 S2 ⟨rfl, z3, z4, z5, z6, rfl⟩
    have tkl : cs.take (cs.map eC).length = cs := by rw [List.length_map, List.take_length]
    rw [show (Src.items ⟨cs.map eC, fun _ => True⟩) = cs.map eC from rfl, tkl]
    exact WSs.one (WS.ret (WE.var 2 rfl (WkD.same q)))
end

theorem pd_eO (S : Store) (o : Option Int) : ∃ p, PD S (eO o) p ∧ okP 0 p = true := by
  cases o with
  | none => exact ⟨.none, .non, rfl⟩
  | some i => exact ⟨.int i, .int i, rfl⟩
section
variable {P : Program} {w : World} {K : PySem.W.Frag} {mg : Str → Option Value} {base : Heap} {f : Addr} {fd : FuncData}
abbrev N_law : List Str := ["_law_script", "_law_h", "_law_turn", "_law_claims_here", "_law_marks_here"]
theorem sc_law : FnScope N_law ["_law_script"] (defScope s_law) := ⟨rfl, rfl, rfl, by decide +kernel, rfl, by decide +kernel, by decide +kernel⟩
theorem bd_law : BindOk "law" "law" s_law ["_law_script"] := fun _ _ _ _ _ _ us hl => match us, hl with | [_], _ => rfl
theorem c_law (B : Bt mg) (G__law_mix : C__law_mix P w K mg base) (G__law_marks : C__law_marks P w K mg base) (G__law_claims : C__law_claims P w K mg base) (G_fit : C_fit P w K mg base) (G__law_fit : C__law_fit P w K mg base) (G__law_alike : C__law_alike P w K mg base 0)
    (Fn : FunD K "law" "law" (defArgs s_law) (defBody s_law) (defScope s_law) [] [] f fd) : FnOk P w K mg base CX0 6 f fd ["_law_script"] (spLaw K) := by
  refine lawD Fn sc_law ?_
  intro cdv A outer s H E d ns hr hd hl
  refine WSs.cons (WS.set 1 (WE.cal G__law_mix (hr.mono (by first | decide | omega)) (WA.cons (WE.var 0 rfl (WA.cons (WE.int (WA.nil ⟨d, ns, 5, rfl, rfl, hd, hl, ?_⟩)))))) sc_law.nd)
  refine WSs.cons (WS.for (WI.range1 (WA.cons (WE.int (WA.nil ⟨30, rfl, by decide, by decide, ?_⟩))) B.range) PassesOwn.never rfl)
  refine ⟨fun i v2 S2 => ∃ dr z2 z3 z4, S2 = dS dr [] ∧ v2 = [some d, some (.loc 1), z2, z3, z4], ⟨_, none, none, none, rfl, rfl⟩, fun _ _ _ _ _ => trivial, ?_, ?_⟩
  · rintro i d' v2 S2 hd' ⟨dr, z2, z3, z4, rfl, rfl⟩
    obtain ⟨hi, rfl⟩ := rngD_get.mp hd'
    refine WG.name 2 ?_ sc_law.nd
    refine WSs.cons (WS.par 3 4 (WA.cons (WE.cal G__law_claims (hr.mono (by first | decide | omega)) (WA.cons (WE.var 1 rfl (WA.nil ⟨dr, [], rfl, rfl, (WA.cons (WE.cal G__law_marks (hr.mono (by first | decide | omega)) (WA.cons (WE.var 1 rfl (WA.nil ⟨(dClaims dr).2, [], rfl, rfl, (WA.nil ⟨_, _, rfl, ?_⟩)⟩)))))⟩))))) rfl sc_law.nd)
    have hcs := dClaims_ok dr
    have hm := dMarks_ok (dClaims dr).2
    generalize (dClaims dr).1 = cs at *
    generalize hdr : (dMarks (dClaims dr).2).2 = dr' at *
    generalize (dMarks (dClaims dr).2).1 = m at *
    obtain ⟨p, hp, hok⟩ := pd_eO (dS dr' []) (fitOf cs m)
    have el := fit_law hcs hm
    refine WSs.one (WS.ite (WT.not (WT.val (WE.cal G__law_alike (hr.mono (by first | decide | omega)) (WA.cons (WE.cal G_fit (hr.mono (by first | decide | omega)) (WA.cons (WE.var 3 rfl (WA.cons (WE.var 4 rfl (WA.nil ⟨cs, m, rfl, hcs, hm, (WA.cons (WE.cal G__law_fit (hr.mono (by first | decide | omega)) (WA.cons (WE.var 3 rfl (WA.cons (WE.var 4 rfl (WA.nil ⟨cs, m, rfl, hm.1, by have := hcs.1; omega, fun c hc => (hcs.2 c hc).1.1, (WA.nil ⟨_, _, p, rfl, hp, by rw [el]; exact hp, hok, ⟨_, rfl, (iF (WSs.nil ?_))⟩⟩)⟩)))))))⟩)))))))))))
    exact WkE.same ⟨dr', _, _, _, rfl, rfl⟩
  · rintro v2 S2 ⟨dr, z2, z3, z4, rfl, rfl⟩
    exact WSs.one (WS.ret (WE.bl rfl))
end


/-! ### the head: facts by names, the run (printed by gen.py) -/
def d_is_number : He.DefD := ⟨("is_number", none), "is_number", "is_number", defArgs s_is_number, defBody s_is_number, defScope s_is_number, [], []⟩
def d_are_marks : He.DefD := ⟨("are_marks", none), "are_marks", "are_marks", defArgs s_are_marks, defBody s_are_marks, defScope s_are_marks, [], []⟩
def d_need_marks : He.DefD := ⟨("need_marks", none), "need_marks", "need_marks", defArgs s_need_marks, defBody s_need_marks, defScope s_need_marks, [], []⟩
def d_is_claim : He.DefD := ⟨("is_claim", none), "is_claim", "is_claim", defArgs s_is_claim, defBody s_is_claim, defScope s_is_claim, [], []⟩
def d_need_claims : He.DefD := ⟨("need_claims", none), "need_claims", "need_claims", defArgs s_need_claims, defBody s_need_claims, defScope s_need_claims, [], []⟩
def d_fit_of : He.DefD := ⟨("fit_of", none), "fit_of", "fit_of", defArgs s_fit_of, defBody s_fit_of, defScope s_fit_of, [], []⟩
def d_fit : He.DefD := ⟨("fit", none), "fit", "fit", defArgs s_fit, defBody s_fit, defScope s_fit, [], []⟩
def d__law_mix : He.DefD := ⟨("_law_mix", none), "_law_mix", "_law_mix", defArgs s__law_mix, defBody s__law_mix, defScope s__law_mix, [], []⟩
def d__law_next : He.DefD := ⟨("_law_next", none), "_law_next", "_law_next", defArgs s__law_next, defBody s__law_next, defScope s__law_next, [], []⟩
def d__law_alike : He.DefD := ⟨("_law_alike", none), "_law_alike", "_law_alike", defArgs s__law_alike, defBody s__law_alike, defScope s__law_alike, [], []⟩
def d__law_marks : He.DefD := ⟨("_law_marks", none), "_law_marks", "_law_marks", defArgs s__law_marks, defBody s__law_marks, defScope s__law_marks, [], []⟩
def d__law_thing : He.DefD := ⟨("_law_thing", none), "_law_thing", "_law_thing", defArgs s__law_thing, defBody s__law_thing, defScope s__law_thing, [], []⟩
def d__law_claims : He.DefD := ⟨("_law_claims", none), "_law_claims", "_law_claims", defArgs s__law_claims, defBody s__law_claims, defScope s__law_claims, [], []⟩
def d__law_fit : He.DefD := ⟨("_law_fit", none), "_law_fit", "_law_fit", defArgs s__law_fit, defBody s__law_fit, defScope s__law_fit, [], []⟩
def d_law : He.DefD := ⟨("law", none), "law", "law", defArgs s_law, defBody s_law, defScope s_law, [], []⟩
def fn : List He.DefD := [d_is_number, d_are_marks, d_need_marks, d_is_claim, d_need_claims, d_fit_of, d_fit, d__law_mix, d__law_next, d__law_alike, d__law_marks, d__law_thing, d__law_claims, d__law_fit, d_law]
def fa : List He.Fa := [.glo "is_number", .glo "are_marks", .glo "need_marks", .glo "is_claim", .glo "need_claims", .glo "fit_of", .glo "fit", .glo "_law_mix", .glo "_law_next", .glo "_law_alike", .glo "_law_marks", .glo "_law_thing", .glo "_law_claims", .glo "_law_fit", .glo "law", .free "len", .free "range", .free "isinstance", .free "sorted", .free "max", .free "min", .free "list", .free "tuple", .free "dict", .free "int", .free "str", .free "bool", .free "enumerate", .free "reversed", .free "sum", .free "set", .int "MOST_MARK" 9, .int "MARKS" 3, .int "MOST_CLAIMS" 6]
def loose : List Str := (["MatchError", "BadThing", "BadClaims", "MOST_MARK", "MARKS", "MOST_CLAIMS", "is_number", "are_marks", "need_marks", "is_claim", "need_claims", "fit_of", "fit", "_law_mix", "_law_next", "_law_alike", "_law_marks", "_law_thing", "_law_claims", "_law_fit"] : List Str)
abbrev R : PySem.W.OpenRow := PySem.W.OpenLaw.row PySem.Challenge.rw_drivermatch_k02_fits
abbrev hk : PySem.W.Hook := He.hookD 4 fa fn
def ob (s : PySem.W.SharedT) : He.AlD := He.obsDG 4 fa fn (HandSHeadRun.getT s)
theorem ob_eq (s : PySem.W.SharedT) : ob s = hk.obs s.abs := He.obsDG_eq (HandSHeadRun.getT_eq s)
theorem run (w : World) : HandSHeadRun.RunEq R (PySem.W.view R.prog [24]) hk ob 2000 loose w := by
  intro os
  kernel_rfl

theorem facts {P : Program} {w : World} {K : PySem.W.Frag} {h : Heap} {mg : Str → Option Value} {f : Addr} (X : K.In h) (G : h.Ns mainGlobals mg) (hfa : mg ("law" : Str) = some (.ref f)) (c : He.SaysD fa fn K) :
    ∃ fd : FuncData, (∀ (s : Shared) (v : Value), BindsTo s fd ⟨[v], []⟩ [("_law_script", v)]) ∧ ∀ base : Heap, K.In base → base.Ns mainGlobals mg → FnOk P w K mg base CX0 6 f fd ["_law_script"] (spLaw K) := by
  have D_is_number : Df K "is_number" "is_number" s_is_number (He.ga K "is_number") := ⟨c.def_ 0 (d := d_is_number) rfl⟩
  have M_is_number : mg "is_number" = some (.ref (He.ga K "is_number")) := He.glo_ok X G (c.fact 0 (f := .glo "is_number") rfl)
  have D_are_marks : Df K "are_marks" "are_marks" s_are_marks (He.ga K "are_marks") := ⟨c.def_ 1 (d := d_are_marks) rfl⟩
  have M_are_marks : mg "are_marks" = some (.ref (He.ga K "are_marks")) := He.glo_ok X G (c.fact 1 (f := .glo "are_marks") rfl)
  have D_need_marks : Df K "need_marks" "need_marks" s_need_marks (He.ga K "need_marks") := ⟨c.def_ 2 (d := d_need_marks) rfl⟩
  have M_need_marks : mg "need_marks" = some (.ref (He.ga K "need_marks")) := He.glo_ok X G (c.fact 2 (f := .glo "need_marks") rfl)
  have D_is_claim : Df K "is_claim" "is_claim" s_is_claim (He.ga K "is_claim") := ⟨c.def_ 3 (d := d_is_claim) rfl⟩
  have M_is_claim : mg "is_claim" = some (.ref (He.ga K "is_claim")) := He.glo_ok X G (c.fact 3 (f := .glo "is_claim") rfl)
  have D_need_claims : Df K "need_claims" "need_claims" s_need_claims (He.ga K "need_claims") := ⟨c.def_ 4 (d := d_need_claims) rfl⟩
  have M_need_claims : mg "need_claims" = some (.ref (He.ga K "need_claims")) := He.glo_ok X G (c.fact 4 (f := .glo "need_claims") rfl)
  have D_fit_of : Df K "fit_of" "fit_of" s_fit_of (He.ga K "fit_of") := ⟨c.def_ 5 (d := d_fit_of) rfl⟩
  have M_fit_of : mg "fit_of" = some (.ref (He.ga K "fit_of")) := He.glo_ok X G (c.fact 5 (f := .glo "fit_of") rfl)
  have D_fit : Df K "fit" "fit" s_fit (He.ga K "fit") := ⟨c.def_ 6 (d := d_fit) rfl⟩
  have M_fit : mg "fit" = some (.ref (He.ga K "fit")) := He.glo_ok X G (c.fact 6 (f := .glo "fit") rfl)
  have D__law_mix : Df K "_law_mix" "_law_mix" s__law_mix (He.ga K "_law_mix") := ⟨c.def_ 7 (d := d__law_mix) rfl⟩
  have M__law_mix : mg "_law_mix" = some (.ref (He.ga K "_law_mix")) := He.glo_ok X G (c.fact 7 (f := .glo "_law_mix") rfl)
  have D__law_next : Df K "_law_next" "_law_next" s__law_next (He.ga K "_law_next") := ⟨c.def_ 8 (d := d__law_next) rfl⟩
  have M__law_next : mg "_law_next" = some (.ref (He.ga K "_law_next")) := He.glo_ok X G (c.fact 8 (f := .glo "_law_next") rfl)
  have D__law_alike : Df K "_law_alike" "_law_alike" s__law_alike (He.ga K "_law_alike") := ⟨c.def_ 9 (d := d__law_alike) rfl⟩
  have M__law_alike : mg "_law_alike" = some (.ref (He.ga K "_law_alike")) := He.glo_ok X G (c.fact 9 (f := .glo "_law_alike") rfl)
  have D__law_marks : Df K "_law_marks" "_law_marks" s__law_marks (He.ga K "_law_marks") := ⟨c.def_ 10 (d := d__law_marks) rfl⟩
  have M__law_marks : mg "_law_marks" = some (.ref (He.ga K "_law_marks")) := He.glo_ok X G (c.fact 10 (f := .glo "_law_marks") rfl)
  have D__law_thing : Df K "_law_thing" "_law_thing" s__law_thing (He.ga K "_law_thing") := ⟨c.def_ 11 (d := d__law_thing) rfl⟩
  have M__law_thing : mg "_law_thing" = some (.ref (He.ga K "_law_thing")) := He.glo_ok X G (c.fact 11 (f := .glo "_law_thing") rfl)
  have D__law_claims : Df K "_law_claims" "_law_claims" s__law_claims (He.ga K "_law_claims") := ⟨c.def_ 12 (d := d__law_claims) rfl⟩
  have M__law_claims : mg "_law_claims" = some (.ref (He.ga K "_law_claims")) := He.glo_ok X G (c.fact 12 (f := .glo "_law_claims") rfl)
  have D__law_fit : Df K "_law_fit" "_law_fit" s__law_fit (He.ga K "_law_fit") := ⟨c.def_ 13 (d := d__law_fit) rfl⟩
  have M__law_fit : mg "_law_fit" = some (.ref (He.ga K "_law_fit")) := He.glo_ok X G (c.fact 13 (f := .glo "_law_fit") rfl)
  have D_law : Df K "law" "law" s_law (He.ga K "law") := ⟨c.def_ 14 (d := d_law) rfl⟩
  have M_law : mg "law" = some (.ref (He.ga K "law")) := He.glo_ok X G (c.fact 14 (f := .glo "law") rfl)
  have B : Bt mg := ⟨He.free_ok X G (c.fact 15 (f := .free "len") rfl), He.free_ok X G (c.fact 16 (f := .free "range") rfl), He.free_ok X G (c.fact 17 (f := .free "isinstance") rfl), He.free_ok X G (c.fact 18 (f := .free "sorted") rfl), He.free_ok X G (c.fact 19 (f := .free "max") rfl), He.free_ok X G (c.fact 20 (f := .free "min") rfl), He.free_ok X G (c.fact 21 (f := .free "list") rfl), He.free_ok X G (c.fact 22 (f := .free "tuple") rfl), He.free_ok X G (c.fact 23 (f := .free "dict") rfl), He.free_ok X G (c.fact 24 (f := .free "int") rfl), He.free_ok X G (c.fact 25 (f := .free "str") rfl), He.free_ok X G (c.fact 26 (f := .free "bool") rfl), He.free_ok X G (c.fact 27 (f := .free "enumerate") rfl), He.free_ok X G (c.fact 28 (f := .free "reversed") rfl), He.free_ok X G (c.fact 29 (f := .free "sum") rfl), He.free_ok X G (c.fact 30 (f := .free "set") rfl)⟩
  have c_MOST_MARK : ∃ tk, mg "MOST_MARK" = some (.int 9 tk) := He.int_ok X G (c.fact 31 (f := .int "MOST_MARK" 9) rfl)
  have c_MARKS : ∃ tk, mg "MARKS" = some (.int 3 tk) := He.int_ok X G (c.fact 32 (f := .int "MARKS" 3) rfl)
  have c_MOST_CLAIMS : ∃ tk, mg "MOST_CLAIMS" = some (.int 6 tk) := He.int_ok X G (c.fact 33 (f := .int "MOST_CLAIMS" 6) rfl)
  obtain ⟨fd, F⟩ := c.def_ 14 (d := d_law) rfl
  have e := hfa.symm.trans M_law
  cases e
  have b := FunD.bindsA (ps := ["_law_script"]) F fun _ _ _ _ _ _ us hl => match us, hl with | [_], _ => rfl
  refine ⟨fd, fun s v => b s [v] rfl, fun base _ _ => ?_⟩
  have G_is_number := c_is_number (P := P) (w := w) (K := K) (mg := mg) (base := base) B D_is_number M_is_number
  have G_are_marks := c_are_marks (P := P) (w := w) (K := K) (mg := mg) (base := base) B c_MARKS c_MOST_MARK G_is_number D_are_marks M_are_marks
  have G_need_marks := c_need_marks (P := P) (w := w) (K := K) (mg := mg) (base := base) G_are_marks D_need_marks M_need_marks
  have G_is_claim := c_is_claim (P := P) (w := w) (K := K) (mg := mg) (base := base) B G_is_number G_are_marks D_is_claim M_is_claim
  have G_need_claims := c_need_claims (P := P) (w := w) (K := K) (mg := mg) (base := base) B c_MOST_CLAIMS G_is_claim D_need_claims M_need_claims
  have G_fit_of := c_fit_of (P := P) (w := w) (K := K) (mg := mg) (base := base) B D_fit_of M_fit_of
  have G__law_mix := c__law_mix (P := P) (w := w) (K := K) (mg := mg) (base := base) B D__law_mix M__law_mix
  have G__law_next := c__law_next (P := P) (w := w) (K := K) (mg := mg) (base := base) B D__law_next M__law_next
  have G__law_marks := c__law_marks (P := P) (w := w) (K := K) (mg := mg) (base := base) B G__law_next D__law_marks M__law_marks
  have G__law_claims := c__law_claims (P := P) (w := w) (K := K) (mg := mg) (base := base) B G__law_next G__law_marks D__law_claims M__law_claims
  have G__law_alike := c__law_alike (P := P) (w := w) (K := K) (mg := mg) (base := base) B D__law_alike M__law_alike 0
  have G_fit := c_fit (P := P) (w := w) (K := K) (mg := mg) (base := base) G_need_claims G_need_marks G_fit_of D_fit M_fit
  have G__law_fit := c__law_fit (P := P) (w := w) (K := K) (mg := mg) (base := base) B D__law_fit M__law_fit
  exact c_law B G__law_mix G__law_marks G__law_claims G_fit G__law_fit G__law_alike F

end DM
open PySem PySem.W PySem.Calls PyProof.Rows
theorem PySem.Challenge.cw_drivermatch_k02_fits_holds : PySem.Challenge.rw_drivermatch_k02_fits.Holds := by
  w_on; o_law
  refine HandSHeadRun.head_any (r := OpenLaw.row PySem.Challenge.rw_drivermatch_k02_fits) (q := view (OpenLaw.row PySem.Challenge.rw_drivermatch_k02_fits).prog [24]) (H := DM.hk) (ob := DM.ob) (M := 2000) (loose := DM.loose) (d := HandSHeadRun.topDef (OpenLaw.row PySem.Challenge.rw_drivermatch_k02_fits).prog 24) (kwd := []) DM.ob_eq
    (by kernel_rfl) (fun s => by kernel_rfl) DM.run (by kernel_rfl) (by kernel_rfl) (by kernel_rfl) (by rfl) (by first | assumption | decide +kernel) (by decide +kernel) ⟨rfl, rfl, rfl, rfl, rfl, by decide +kernel⟩ ?hw ?hc
  case hw => w_witness2
  case hc =>
    refine L2.walk_ofE (l := PySem.Challenge.rw_drivermatch_k02_fits) (n := 63) (k := 6) (x := "_law_script") (CX := L2.CX0) rfl (by decide) (by kernel_rfl) ⟨rfl, by decide, by decide⟩ ?F (fun _ _ _ _ z => z)
    intro w mg fa h Y G hmg0
    obtain ⟨K, KX, c⟩ := Y
    have hmg : mg ("law" : PySem.Str) = some (.ref fa) := by
      have e : (HandSHeadRun.topDef (OpenLaw.row PySem.Challenge.rw_drivermatch_k02_fits).prog 24).name = ("law" : PySem.Str) := by kernel_rfl
      rw [← e]
      exact hmg0
    obtain ⟨fd, hb, hF⟩ := DM.facts (P := (PySem.Challenge.rw_drivermatch_k02_fits).prog) (w := w) KX G hmg c
    exact ⟨K, fd, DM.spLaw K, KX, hb, fun H a ns hl ho hS => ⟨a, ns, rfl, hS, ho, by omega, fun _ => rfl⟩, hF⟩
