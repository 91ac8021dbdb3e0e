import PyProof.Rows.All
import HandS.ForMost
import HandS.ForExc
import HandS.Wide
import HandS.CallSlots
import HandS.Flow
import HandS.Lambda
import HandS.TupAny
import HandS.TupMul
import HandS.Text
import HandS.Deep
import HandS.Star
import HandS.Zip
import HandS.Iter
import HandS.Comp
import HandS.IsInst
import HandS.RaiseMore
import HandS.MapJoin
import HandS.Style
import HandS.Ends
import HandS.HeadEnd
import HandS.Defaults
import HandS.HeadHook4
import HandS.Head2
import KE.KExcSuper
import KE.KSuper
import PyProof.FString4
import PyProof.ReprRoads
import HandS.ExcInit
import HandS.TryMany
import HandS.ExcField
import HandS.EndTab
import HandS.Dict
import PySem.Challenge.RW_nextties_k22_errors_and_judges_of_number
set_option Elab.async false
set_option linter.all false
set_option maxRecDepth 100000
set_option maxHeartbeats 8000000
/-! FwA: data D, memory, how they stand in the abstract heap; readings of semantic functions. -/
namespace FW
open PySem PySem.Spec PyProof.Rows L2

/-- a list that is only read: locked, or of the written part -/
def Sq0 (K : PySem.W.Frag) (H : Hp) (a : Addr) (xs : List V) : Prop :=
  (∃ o, H a = some (.frz o (.lst xs))) ∨
    ∃ (o : Obj) (its : Array Value) (n : Nat), K.lookup a = some o ∧ o.cls = .type "list" ∧ o.dict = none ∧ o.data = .seq its n ∧ its.size ≤ sizeLine ∧ Vals xs its.toList
theorem Sq0.seq {K : PySem.W.Frag} {H : Hp} {a : Addr} {xs : List V} (h : Sq0 K H a xs) : SqL K H a xs := by
  rcases h with h | h
  · exact .inl (.inr h)
  · exact .inr h

/-- pure data: dic: a dict that nobody writes, its keys ints and texts; texts as codes; lst: a list that nobody writes; fn: a def by its number; ins: an instance by its class's number and its fields in order; clo: a lambda by its number -/
inductive P where
  | non | bl (b : Bool) | int (i : Int) | str (s : List Nat) | tup (ds : List P) | lst (ds : List P) | fn (k : Nat) | ins (c : Nat) (fs : List P) | clo (j : Nat) | exn (c : Nat) (fs : List P) | dic (ks vs : List P)
/-- data: pure, or the number of a list that is written, or a lambda of this frame, or a list of such -/
inductive D where
  | p (x : P) | loc (n : Nat) | clo (j : Nat) | clos (js : List Nat)
structure Mem where
  nx : Nat
  at_ : Nat → Option (List P)
def Mem.empty : Mem := ⟨0, fun _ => none⟩
def Mem.put (M : Mem) (n : Nat) (c : List P) : Mem := ⟨M.nx, fun m => if m == n then some c else M.at_ m⟩
def Mem.new (M : Mem) (c : List P) : Mem := ⟨M.nx + 1, fun m => if m == M.nx then some c else M.at_ m⟩
/-- an own error: its class's number, what it keeps -/
structure Exn where
  c : Nat
  d : Option P
inductive RE where
  | ok (d : D) (M : Mem) | exc (x : Exn) (M : Mem) | bad
inductive RT where
  | ok (b : Bool) (M : Mem) | exc (x : Exn) (M : Mem) | bad
inductive RA where
  | ok (ds : List D) (M : Mem) | exc (x : Exn) (M : Mem) | bad
abbrev Slots := List (Option D)
inductive RS where
  | nx (s : Slots) (M : Mem) | rt (d : D) (M : Mem) | bk (s : Slots) (M : Mem) | ct (s : Slots) (M : Mem) | exc (x : Exn) (s : Slots) (M : Mem) | bad
/-- the runtime: calls of defs; turns of a loop at most -/
structure Rt where
  call : Nat → List D → Mem → RE
  L : Nat
abbrev SE := Rt → Slots → Mem → RE
abbrev ST := Rt → Slots → Mem → RT
abbrev SA := Rt → Slots → Mem → RA
abbrev SS := Rt → Slots → Mem → RS

/-- kept where objects that are no lists and no tables stay -/
def Stay (q : Hp → Prop) : Prop := ∀ H H' : Hp, q H → (∀ b o, H b = some o → (∀ ps, o ≠ .tbl ps) → (∀ xs, o ≠ .lst xs) → H' b = some o) → q H'
/-- what pure data stand for -/
structure Bm where
  K : PySem.W.Frag
  /-- the defs' addresses -/
  fa : Nat → Option Addr
  /-- the own classes' addresses -/
  ca : Nat → Option Addr
  /-- the names of their fields, in order -/
  fl : Nat → List Str
  /-- a closed lambda's object, by its number -/
  cl : Nat → Addr → Hp → Prop
  clK : ∀ j a, Stay (cl j a)
abbrev Rho := Nat → Option Addr
/-- what is kept: all but the numbered lists and the tables -/
structure Ext (ρ : Rho) (H : Hp) (ρ' : Rho) (H' : Hp) : Prop where
  rho : ∀ n a, ρ n = some a → ρ' n = some a
  new : ∀ n a, ρ' n = some a → ρ n = some a ∨ H a = none
  there : ∀ a, H a ≠ none → H' a ≠ none
  keep : ∀ a o, H a = some o → (∀ ps, o ≠ .tbl ps) → ((∃ xs, o = .lst xs) → ∀ n, ρ n ≠ some a) → H' a = some o
/-- what is the same through a frame -/
structure Am extends Bm where
  /-- the tables of code objects, with the names of what they tell -/
  T : List (Addr × Str)
  /-- a lambda's object, by its number: what is true of it -/
  lam : Nat → Addr → Rho → Hp → Prop
  lamK : ∀ j a ρ H ρ' H', lam j a ρ H → Ext ρ H ρ' H' → lam j a ρ' H'
instance : Coe Am Bm := ⟨Am.toBm⟩

/-- a dict's key -/
def keyP : Key → P
  | .inl i => .int i
  | .inr x => .str x.cps.toList
section
variable (Z : Bm)
mutual
def Rep (H : Hp) : P → V → Prop
  | .non, v => v = .non
  | .bl b, v => v = .bl b
  | .int i, v => v = .int i
  | .str s, v => v = .str ⟨s.toArray⟩
  | .tup ds, v => ∃ a xs, v = .ref a ∧ SqT Z.K H a xs ∧ RepL H ds xs
  | .lst ds, v => ∃ a xs, v = .ref a ∧ Sq0 Z.K H a xs ∧ RepL H ds xs
  | .fn k, v => ∃ a, v = .ref a ∧ Z.fa k = some a
  | .ins c ds, v => ∃ a C dx xs, v = .ref a ∧ Z.ca c = some C ∧ (Z.fl c).length = xs.length ∧ H a = some (.ins C dx ((Z.fl c).zip xs)) ∧ RepL H ds xs
  | .exn c ds, v => ∃ a C dd xs, v = .ref a ∧ Z.ca c = some C ∧ (Z.fl c).length = xs.length ∧ H dd = some (.xd ((Z.fl c).zip xs)) ∧ RepL H ds xs
  | .clo j, v => ∃ a, v = .ref a ∧ Z.cl j a H
  | .dic ks ds, v => ∃ a o kv, v = .ref a ∧ H a = some (.frz o (.dK kv)) ∧ ks = kv.map (fun p => keyP p.1) ∧ RepL H ds (kv.map (·.2))
def RepL (H : Hp) : List P → List V → Prop
  | [], xs => xs = []
  | d :: ds, xs => ∃ x r, xs = x :: r ∧ Rep H d x ∧ RepL H ds r
end
end
section
variable (Z : Am)
/-- lambdas, one behind the other -/
def RepC (ρ : Rho) (H : Hp) : List Nat → List V → Prop
  | [], xs => xs = []
  | j :: js, xs => ∃ a r, xs = .ref a :: r ∧ Z.lam j a ρ H ∧ RepC ρ H js r
def RepD (ρ : Rho) (H : Hp) : D → V → Prop
  | .p x, v => Rep Z H x v
  | .loc n, v => ∃ a, v = .ref a ∧ ρ n = some a
  | .clo j, v => ∃ a, v = .ref a ∧ Z.lam j a ρ H
  | .clos js, v => ∃ a xs, v = .ref a ∧ Sq0 Z.K H a xs ∧ RepC Z ρ H js xs
def RepDs (ρ : Rho) (H : Hp) : List D → List V → Prop
  | [], xs => xs = []
  | d :: ds, xs => ∃ x r, xs = x :: r ∧ RepD Z ρ H d x ∧ RepDs ρ H ds r
structure Rl (ρ : Rho) (M : Mem) (H : Hp) : Prop where
  num : ∀ n a, ρ n = some a → ∃ ds xs, M.at_ n = some ds ∧ H a = some (.lst xs) ∧ RepL Z H ds xs
  has : ∀ n ds, M.at_ n = some ds → ∃ a, ρ n = some a
  inj : ∀ m n a, ρ m = some a → ρ n = some a → m = n
  lt : ∀ n ds, M.at_ n = some ds → n < M.nx
  tabs : LamX.Tabs Z.T H
structure SlO (ρ : Rho) (H : Hp) (δ : Slots) (σ : L2.St) : Prop where
  len : δ.length = σ.length
  at_ : ∀ (i : Nat) (d : D), δ[i]? = some (some d) → ∃ v, σ[i]? = some (some v) ∧ RepD Z ρ H d v
end
section
variable {Z : Am} {ρ ρ' ρ'' : Rho} {M M' : Mem} {H H' H'' : Hp}
theorem Ext.refl : Ext ρ H ρ H := ⟨fun _ _ h => h, fun _ _ h => .inl h, fun _ h => h, fun _ _ h _ _ => h⟩
theorem Ext.trans (a : Ext ρ H ρ' H') (b : Ext ρ' H' ρ'' H'') : Ext ρ H ρ'' H'' := ⟨fun n x h => b.rho n x (a.rho n x h), fun n x h => by
    rcases b.new n x h with q | q
    · exact a.new n x q
    · right
      cases e : H x with
      | none => rfl
      | some o => exact absurd q (a.there x (by rw [e]; simp)), fun x h => b.there x (a.there x h), fun x o h ht hl => b.keep x o (a.keep x o h ht hl) ht fun hx n q => by
    rcases a.new n x q with z | z
    · exact hl hx n z
    · rw [h] at z; cases z⟩
theorem Ext.obj (e : Ext ρ H ρ' H') {a : Addr} {o : HO} (h : H a = some o) (h1 : ∀ ps, o ≠ .tbl ps) (h2 : ∀ xs, o ≠ .lst xs) : H' a = some o := e.keep a o h h1 fun ⟨xs, z⟩ => absurd z (h2 xs)
theorem Ext.stay (e : Ext ρ H ρ' H') {q : Hp → Prop} (k : Stay q) (h : q H) : q H' := k H H' h fun b o h1 h2 h3 => e.obj h1 h2 h3
theorem Ext.sqT (e : Ext ρ H ρ' H') {K : PySem.W.Frag} {a : Addr} {xs : List V} (h : SqT K H a xs) : SqT K H' a xs := by
  rcases h with (h | ⟨ob, h⟩) | h
  · exact .inl (.inl (e.obj h (fun _ z => by cases z) fun _ z => by cases z))
  · exact .inl (.inr ⟨ob, e.obj h (fun _ z => by cases z) fun _ z => by cases z⟩)
  · exact .inr h
theorem Ext.sq0 (e : Ext ρ H ρ' H') {K : PySem.W.Frag} {a : Addr} {xs : List V} (h : Sq0 K H a xs) : Sq0 K H' a xs := by
  rcases h with ⟨ob, h⟩ | h
  · exact .inl ⟨ob, e.obj h (fun _ z => by cases z) fun _ z => by cases z⟩
  · exact .inr h
mutual
theorem Rep.ext (e : Ext ρ H ρ' H') : ∀ {d : P} {v : V}, Rep Z H d v → Rep Z H' d v
  | .non, _, h => h
  | .bl _, _, h => h
  | .int _, _, h => h
  | .str _, _, h => h
  | .fn _, _, h => h
  | .clo _, v, h => by
    unfold Rep at h ⊢
    obtain ⟨a, h1, h2⟩ := h
    exact ⟨a, h1, e.stay (Z.clK _ a) h2⟩
  | .tup ds, v, h => by
    unfold Rep at h ⊢
    obtain ⟨a, xs, h1, h2, h3⟩ := h
    exact ⟨a, xs, h1, e.sqT h2, RepL.ext e h3⟩
  | .lst ds, v, h => by
    unfold Rep at h ⊢
    obtain ⟨a, xs, h1, h2, h3⟩ := h
    exact ⟨a, xs, h1, e.sq0 h2, RepL.ext e h3⟩
  | .ins c ds, v, h => by
    unfold Rep at h ⊢
    obtain ⟨a, C, dx, xs, h1, h2, h3, h4, h5⟩ := h
    exact ⟨a, C, dx, xs, h1, h2, h3, e.obj h4 (fun _ z => by cases z) (fun _ z => by cases z), RepL.ext e h5⟩
  | .exn c ds, v, h => by
    unfold Rep at h ⊢
    obtain ⟨a, C, dx, xs, h1, h2, h3, h4, h5⟩ := h
    exact ⟨a, C, dx, xs, h1, h2, h3, e.obj h4 (fun _ z => by cases z) (fun _ z => by cases z), RepL.ext e h5⟩
  | .dic ks ds, v, h => by
    unfold Rep at h ⊢
    obtain ⟨a, o, kv, h1, h2, h3, h4⟩ := h
    exact ⟨a, o, kv, h1, e.obj h2 (fun _ z => by cases z) (fun _ z => by cases z), h3, RepL.ext e h4⟩
theorem RepL.ext (e : Ext ρ H ρ' H') : ∀ {ds : List P} {xs : List V}, RepL Z H ds xs → RepL Z H' ds xs
  | [], xs, h => by
    unfold RepL at h ⊢
    exact h
  | d :: ds, xs, h => by
    unfold RepL at h ⊢
    obtain ⟨x, r, h1, h2, h3⟩ := h
    exact ⟨x, r, h1, Rep.ext e h2, RepL.ext e h3⟩
end
theorem RepC.ext (e : Ext ρ H ρ' H') : ∀ {js : List Nat} {xs : List V}, RepC Z ρ H js xs → RepC Z ρ' H' js xs
  | [], xs, h => h
  | j :: js, xs, h => by
    obtain ⟨a, r, h1, h2, h3⟩ := h
    exact ⟨a, r, h1, Z.lamK _ _ _ _ _ _ h2 e, RepC.ext e h3⟩
theorem RepD.ext (e : Ext ρ H ρ' H') : ∀ {d : D} {v : V}, RepD Z ρ H d v → RepD Z ρ' H' d v
  | .p _, _, h => Rep.ext e h
  | .loc n, v, h => by
    obtain ⟨a, h1, h2⟩ := h
    exact ⟨a, h1, e.rho _ _ h2⟩
  | .clo j, v, h => by
    obtain ⟨a, h1, h2⟩ := h
    exact ⟨a, h1, Z.lamK _ _ _ _ _ _ h2 e⟩
  | .clos js, v, h => by
    obtain ⟨a, xs, h1, h2, h3⟩ := h
    exact ⟨a, xs, h1, e.sq0 h2, RepC.ext e h3⟩
theorem RepDs.ext (e : Ext ρ H ρ' H') : ∀ {ds : List D} {xs : List V}, RepDs Z ρ H ds xs → RepDs Z ρ' H' ds xs
  | [], xs, h => h
  | d :: ds, xs, h => by
    obtain ⟨x, r, h1, h2, h3⟩ := h
    exact ⟨x, r, h1, h2.ext e, RepDs.ext e h3⟩
theorem RepDs.nil : RepDs Z ρ H [] [] := rfl
theorem RepDs.cons {d : D} {ds : List D} {x : V} {xs : List V} (h : RepD Z ρ H d x) (r : RepDs Z ρ H ds xs) : RepDs Z ρ H (d :: ds) (x :: xs) := ⟨x, xs, rfl, h, r⟩
theorem RepDs.length : ∀ {ds : List D} {xs : List V}, RepDs Z ρ H ds xs → ds.length = xs.length
  | [], xs, h => by
    have h : xs = [] := h
    rw [h]; rfl
  | d :: ds, xs, h => by
    obtain ⟨x, r, h1, h2, h3⟩ := h
    rw [h1, List.length_cons, List.length_cons, RepDs.length h3]
theorem RepDs.get : ∀ {ds : List D} {xs : List V} {i : Nat} {d : D}, RepDs Z ρ H ds xs → ds[i]? = some d → ∃ x, xs[i]? = some x ∧ RepD Z ρ H d x
  | [], xs, i, d, h, e => by simp at e
  | d0 :: ds, xs, 0, d, h, e => by
    obtain ⟨x, r, h1, h2, h3⟩ := h
    simp at e
    subst e
    subst h1
    exact ⟨x, rfl, h2⟩
  | d0 :: ds, xs, i + 1, d, h, e => by
    obtain ⟨x, r, h1, h2, h3⟩ := h
    subst h1
    obtain ⟨y, e1, e2⟩ := RepDs.get (i := i) (d := d) h3 (by simpa using e)
    exact ⟨y, by simpa using e1, e2⟩
theorem RepDs.append : ∀ {ds es : List D} {xs ys : List V}, RepDs Z ρ H ds xs → RepDs Z ρ H es ys → RepDs Z ρ H (ds ++ es) (xs ++ ys)
  | [], es, xs, ys, h, g => by
    have h : xs = [] := h
    subst h
    exact g
  | d :: ds, es, xs, ys, h, g => by
    obtain ⟨x, r, h1, h2, h3⟩ := h
    subst h1
    exact RepDs.cons h2 (RepDs.append h3 g)
theorem RepL.nil : RepL Z H [] [] := by unfold RepL; rfl
theorem RepL.cons {d : P} {ds : List P} {x : V} {xs : List V} (h : Rep Z H d x) (r : RepL Z H ds xs) : RepL Z H (d :: ds) (x :: xs) := by
  unfold RepL; exact ⟨x, xs, rfl, h, r⟩
theorem RepL.unc {d : P} {ds : List P} {xs : List V} (h : RepL Z H (d :: ds) xs) : ∃ x r, xs = x :: r ∧ Rep Z H d x ∧ RepL Z H ds r := by
  unfold RepL at h; exact h
theorem RepL.unn {xs : List V} (h : RepL Z H [] xs) : xs = [] := by
  unfold RepL at h; exact h
theorem RepL.length : ∀ {ds : List P} {xs : List V}, RepL Z H ds xs → ds.length = xs.length
  | [], xs, h => by rw [h.unn]; rfl
  | d :: ds, xs, h => by
    obtain ⟨x, r, h1, h2, h3⟩ := h.unc
    rw [h1, List.length_cons, List.length_cons, RepL.length h3]
theorem RepL.get : ∀ {ds : List P} {xs : List V} {i : Nat} {d : P}, RepL Z H ds xs → ds[i]? = some d → ∃ x, xs[i]? = some x ∧ Rep Z H d x
  | [], xs, i, d, h, e => by simp at e
  | d0 :: ds, xs, 0, d, h, e => by
    obtain ⟨x, r, h1, h2, h3⟩ := h.unc
    simp at e
    subst e
    subst h1
    exact ⟨x, rfl, h2⟩
  | d0 :: ds, xs, i + 1, d, h, e => by
    obtain ⟨x, r, h1, h2, h3⟩ := h.unc
    subst h1
    obtain ⟨y, e1, e2⟩ := RepL.get (i := i) (d := d) h3 (by simpa using e)
    exact ⟨y, by simpa using e1, e2⟩
theorem RepL.append : ∀ {ds es : List P} {xs ys : List V}, RepL Z H ds xs → RepL Z H es ys → RepL Z H (ds ++ es) (xs ++ ys)
  | [], es, xs, ys, h, g => by
    rw [h.unn]
    exact g
  | d :: ds, es, xs, ys, h, g => by
    obtain ⟨x, r, h1, h2, h3⟩ := h.unc
    subst h1
    exact RepL.cons h2 (RepL.append h3 g)
theorem RepL.take : ∀ {ds : List P} {xs : List V} (n : Nat), RepL Z H ds xs → RepL Z H (ds.take n) (xs.take n)
  | _, _, 0, _ => RepL.nil
  | [], xs, n + 1, h => by
    rw [h.unn]
    exact RepL.nil
  | d :: ds, xs, n + 1, h => by
    obtain ⟨x, r, h1, h2, h3⟩ := h.unc
    subst h1
    exact RepL.cons h2 (RepL.take n h3)
theorem RepL.drop : ∀ {ds : List P} {xs : List V} (n : Nat), RepL Z H ds xs → RepL Z H (ds.drop n) (xs.drop n)
  | _, _, 0, h => h
  | [], xs, n + 1, h => by
    rw [h.unn]
    exact RepL.nil
  | d :: ds, xs, n + 1, h => by
    obtain ⟨x, r, h1, h2, h3⟩ := h.unc
    subst h1
    exact RepL.drop n h3
theorem RepL.set {d : P} {x : V} (hx : Rep Z H d x) : ∀ {ds : List P} {xs : List V} (i : Nat), RepL Z H ds xs → RepL Z H (ds.set i d) (xs.set i x)
  | [], xs, i, h => by
    rw [h.unn]
    exact RepL.nil
  | d0 :: ds, xs, 0, h => by
    obtain ⟨x0, r, h1, h2, h3⟩ := h.unc
    subst h1
    exact RepL.cons hx h3
  | d0 :: ds, xs, i + 1, h => by
    obtain ⟨x0, r, h1, h2, h3⟩ := h.unc
    subst h1
    exact RepL.cons h2 (RepL.set hx i h3)
theorem SlO.ext {δ : Slots} {σ : L2.St} (e : Ext ρ H ρ' H') (h : SlO Z ρ H δ σ) : SlO Z ρ' H' δ σ := ⟨h.len, fun i d q => by
  obtain ⟨v, h1, h2⟩ := h.at_ i d q
  exact ⟨v, h1, h2.ext e⟩⟩
theorem SlO.set {δ : Slots} {σ : L2.St} {d : D} {v : V} (h : SlO Z ρ H δ σ) (i : Nat) (r : RepD Z ρ H d v) : SlO Z ρ H (δ.set i (some d)) (σ.set i (some v)) := ⟨by rw [List.length_set, List.length_set, h.len], fun j e q => by
  by_cases hj : i = j
  · subst hj
    by_cases hl : i < δ.length
    · rw [List.getElem?_set_self hl] at q
      cases q
      exact ⟨v, by rw [List.getElem?_set_self (by rw [← h.len]; exact hl)], r⟩
    · rw [List.getElem?_eq_none (by simpa using hl)] at q
      cases q
  · rw [List.getElem?_set_ne hj] at q
    obtain ⟨u, h1, h2⟩ := h.at_ j e q
    exact ⟨u, by rw [List.getElem?_set_ne hj]; exact h1, h2⟩⟩
theorem SlO.drop {δ : Slots} {σ : L2.St} (h : SlO Z ρ H δ σ) (i : Nat) : SlO Z ρ H (δ.set i none) (σ.set i none) := ⟨by rw [List.length_set, List.length_set, h.len], fun j e q => by
  by_cases hj : i = j
  · subst hj
    by_cases hl : i < δ.length
    · rw [List.getElem?_set_self hl] at q
      cases q
    · rw [List.getElem?_eq_none (by simpa using hl)] at q
      cases q
  · rw [List.getElem?_set_ne hj] at q
    obtain ⟨u, h1, h2⟩ := h.at_ j e q
    exact ⟨u, by rw [List.getElem?_set_ne hj]; exact h1, h2⟩⟩
/-- a new tracked thing that has no number -/
theorem Rl.laid (r : Rl Z ρ M H) {p : Addr} {o : HO} (hp : H p = none) : Rl Z ρ M (upd H p o) ∧ Ext ρ H ρ (upd H p o) := by
  have k : ∀ a u, H a = some u → upd H p o a = some u := fun a u h => by
    rw [upd_ne (ne_of_none h hp)]; exact h
  have e : Ext ρ H ρ (upd H p o) := ⟨fun _ _ h => h, fun _ _ h => .inl h, fun a h => by
    cases q : H a with
    | none => exact absurd q h
    | some u => rw [k a u q]; simp, fun a u h _ _ => k a u h⟩
  refine ⟨⟨fun n a q => ?_, r.has, r.inj, r.lt, r.tabs.ext k⟩, e⟩
  obtain ⟨ds, xs, h1, h2, h3⟩ := r.num n a q
  exact ⟨ds, xs, h1, k _ _ h2, h3.ext e⟩
/-- a new numbered list -/
theorem Rl.new (r : Rl Z ρ M H) {p : Addr} {ds : List P} {xs : List V} (hp : H p = none) (h : RepL Z H ds xs) :
    ∃ ρ', Rl Z ρ' (M.new ds) (upd H p (.lst xs)) ∧ Ext ρ H ρ' (upd H p (.lst xs)) ∧ ρ' M.nx = some p := by
  obtain ⟨ρ', hρ⟩ : ∃ ρ' : Rho, ρ' = fun m => if m == M.nx then some p else ρ m := ⟨_, rfl⟩
  have at1 : ρ' M.nx = some p := by rw [hρ]; simp
  have at2 : ∀ n, n ≠ M.nx → ρ' n = ρ n := fun n hn => by rw [hρ]; simp [hn]
  have k : ∀ a u, H a = some u → upd H p (.lst xs) a = some u := fun a u h => by
    rw [upd_ne (ne_of_none h hp)]; exact h
  have lt : ∀ n a, ρ n = some a → n < M.nx := fun n a q => by
    obtain ⟨ds, xs, h1, _⟩ := r.num n a q
    exact r.lt _ _ h1
  have e : Ext ρ H ρ' (upd H p (.lst xs)) := ⟨fun n a q => by
    have := lt n a q
    rw [at2 n (by omega)]
    exact q, fun n a q => by
    by_cases hn : n = M.nx
    · rw [hn, at1] at q
      cases q
      exact .inr hp
    · rw [at2 n hn] at q
      exact .inl q, fun a h => by
    cases q : H a with
    | none => exact absurd q h
    | some u => rw [k a u q]; simp, fun a u h _ _ => k a u h⟩
  have m1 : (M.new ds).at_ M.nx = some ds := by simp [Mem.new]
  have m2 : ∀ n, n ≠ M.nx → (M.new ds).at_ n = M.at_ n := fun n hn => by simp [Mem.new, hn]
  refine ⟨ρ', ⟨fun n a q => ?_, fun n es q => ?_, fun m n a q1 q2 => ?_, fun n es q => ?_, r.tabs.ext k⟩, e, at1⟩
  · by_cases hn : n = M.nx
    · rw [hn, at1] at q
      cases q
      exact ⟨ds, xs, by rw [hn]; exact m1, upd_same, h.ext e⟩
    · rw [at2 n hn] at q
      obtain ⟨es, ys, h1, h2, h3⟩ := r.num n a q
      exact ⟨es, ys, by rw [m2 n hn]; exact h1, k _ _ h2, h3.ext e⟩
  · by_cases hn : n = M.nx
    · exact ⟨p, by rw [hn]; exact at1⟩
    · rw [m2 n hn] at q
      obtain ⟨a, ha⟩ := r.has n es q
      exact ⟨a, by rw [at2 n hn]; exact ha⟩
  · have far : ∀ n, ρ n = some p → False := fun n q => by
      obtain ⟨_, _, _, h2, _⟩ := r.num n p q
      rw [hp] at h2; cases h2
    by_cases hm : m = M.nx
    · by_cases hn : n = M.nx
      · omega
      · rw [hm, at1] at q1
        cases q1
        rw [at2 n hn] at q2
        exact (far n q2).elim
    · by_cases hn : n = M.nx
      · rw [hn, at1] at q2
        cases q2
        rw [at2 m hm] at q1
        exact (far m q1).elim
      · rw [at2 m hm] at q1
        rw [at2 n hn] at q2
        exact r.inj m n a q1 q2
  · show n < M.nx + 1
    by_cases hn : n = M.nx
    · omega
    · rw [m2 n hn] at q
      have := r.lt n es q
      omega
/-- a numbered list is written -/
theorem Rl.write (r : Rl Z ρ M H) {n : Nat} {a : Addr} {ds : List P} {xs : List V} (ha : ρ n = some a) (h : RepL Z H ds xs) :
    Rl Z ρ (M.put n ds) (upd H a (.lst xs)) ∧ Ext ρ H ρ (upd H a (.lst xs)) := by
  obtain ⟨ds0, xs0, g1, g2, g3⟩ := r.num n a ha
  have k : ∀ b u, H b = some u → b ≠ a → upd H a (.lst xs) b = some u := fun b u h hb => by
    rw [upd_ne hb]; exact h
  have e : Ext ρ H ρ (upd H a (.lst xs)) := ⟨fun _ _ h => h, fun _ _ h => .inl h, fun b h => by
    by_cases hb : b = a
    · rw [hb, upd_same]; simp
    · rw [upd_ne hb]; exact h, fun b u h ht hl => by
    refine k b u h fun z => ?_
    rw [z, g2] at h
    cases h
    exact hl ⟨_, rfl⟩ n (by rw [z]; exact ha)⟩
  have m1 : (M.put n ds).at_ n = some ds := by simp [Mem.put]
  have m2 : ∀ m, m ≠ n → (M.put n ds).at_ m = M.at_ m := fun m hm => by simp [Mem.put, hm]
  refine ⟨⟨fun m b q => ?_, fun m es q => ?_, r.inj, fun m es q => ?_, fun p hp => ?_⟩, e⟩
  · by_cases hm : m = n
    · rw [hm, ha] at q
      cases q
      exact ⟨ds, xs, by rw [hm]; exact m1, upd_same, h.ext e⟩
    · obtain ⟨es, ys, h1, h2, h3⟩ := r.num m b q
      exact ⟨es, ys, by rw [m2 m hm]; exact h1, k _ _ h2 (fun z => hm (r.inj m n b q (by rw [z]; exact ha))), h3.ext e⟩
  · by_cases hm : m = n
    · exact ⟨a, by rw [hm]; exact ha⟩
    · rw [m2 m hm] at q
      exact r.has m es q
  · by_cases hm : m = n
    · rw [hm]; exact r.lt _ _ g1
    · rw [m2 m hm] at q
      exact r.lt m es q
  · obtain ⟨ps, h1, h2, h3⟩ := r.tabs p hp
    refine ⟨ps, k _ _ h1 (fun z => by rw [z, g2] at h1; cases h1), h2, fun pos cv q => ?_⟩
    obtain ⟨c, q1, q2⟩ := h3 pos cv q
    exact ⟨c, q1, k _ _ q2 (fun z => by rw [z, g2] at q2; cases q2)⟩
/-- seen from a new arena: no list has a number -/
theorem Rl.arena (r : Rl Z ρ M H) : Rl Z (fun _ => none) Mem.empty H := by
  have z : ∀ {n : Nat} {ds : List P}, Mem.empty.at_ n = some ds → False := fun {n ds} q => by
    have q : (none : Option (List P)) = some ds := q
    cases q
  exact ⟨fun _ _ q => (by cases q), fun _ _ q => (z q).elim, fun _ _ _ q => (by cases q), fun _ _ q => (z q).elim, r.tabs⟩
theorem Rl.back {ρ1 : Rho} {M1 : Mem} (r : Rl Z ρ M H) (r1 : Rl Z ρ1 M1 H') (e : Ext (fun _ => none) H ρ1 H') : Rl Z ρ M H' ∧ Ext ρ H ρ H' := by
  have e2 : Ext ρ H ρ H' := ⟨fun _ _ h => h, fun _ _ h => .inl h, e.there, fun a o h h1 _ => e.keep a o h h1 fun _ _ q => by cases q⟩
  refine ⟨⟨fun n a q => ?_, r.has, r.inj, r.lt, r1.tabs⟩, e2⟩
  obtain ⟨ds, xs, h1, h2, h3⟩ := r.num n a q
  exact ⟨ds, xs, h1, e.keep a _ h2 (fun _ z => by cases z) (fun _ _ q => by cases q), h3.ext e2⟩
end
end FW
/-! FwB: readings of semantic functions; the plain combinators. -/
namespace FW
open PySem PySem.Spec PyProof.Rows L2

def PostE (r : RE) (ok : D → Mem → Prop) (ex : Exn → Mem → Prop) : Prop := match r with
  | .ok d M => ok d M
  | .exc x M => ex x M
  | .bad => False
def PostT (r : RT) (ok : Bool → Mem → Prop) (ex : Exn → Mem → Prop) : Prop := match r with
  | .ok d M => ok d M
  | .exc x M => ex x M
  | .bad => False
def PostA (r : RA) (ok : List D → Mem → Prop) (ex : Exn → Mem → Prop) : Prop := match r with
  | .ok d M => ok d M
  | .exc x M => ex x M
  | .bad => False
/-- how an own error stands: its class, its own dict -/
def ExR (Z : Am) (H : Hp) (x : Exn) (cls : Value) (dx : Option Addr) : Prop :=
  ∃ A, cls = .ref A ∧ Z.ca x.c = some A ∧ match x.d with
    | none => dx = none
    | some d => ∃ dd v nm, dx = some dd ∧ H dd = some (.xd [(nm, v)]) ∧ Z.fl x.c = [nm] ∧ Rep Z H d v
def stdO (Z : Am) (ρ : Rho) (H : Hp) (Q : VK) : D → Mem → Prop := fun d M' => ∀ ρ' v H', Ext ρ H ρ' H' → Rl Z ρ' M' H' → RepD Z ρ' H' d v → Q v H'
def stdT (Z : Am) (ρ : Rho) (H : Hp) (Q : Bool → Hp → Prop) : Bool → Mem → Prop := fun d M' => ∀ ρ' H', Ext ρ H ρ' H' → Rl Z ρ' M' H' → Q d H'
def stdA (Z : Am) (ρ : Rho) (H : Hp) (Q : List V → Hp → Prop) : List D → Mem → Prop := fun ds M' => ∀ ρ' vs H', Ext ρ H ρ' H' → Rl Z ρ' M' H' → RepDs Z ρ' H' ds vs → Q vs H'
def stdX (Z : Am) (W : WX) (ρ : Rho) (H : Hp) (σ : L2.St) : Exn → Mem → Prop := fun x M' => ∀ ρ' cls dx H', Ext ρ H ρ' H' → Rl Z ρ' M' H' → ExR Z H' x cls dx → W cls dx σ H'
def tE (Z : Am) (rt : Rt) (W : WX) (m : SE) : TE := fun σ H Q => ∃ ρ M δ, Rl Z ρ M H ∧ SlO Z ρ H δ σ ∧ PostE (m rt δ M) (stdO Z ρ H Q) (stdX Z W ρ H σ)
def tT (Z : Am) (rt : Rt) (W : WX) (m : ST) : TT := fun σ H Q => ∃ ρ M δ, Rl Z ρ M H ∧ SlO Z ρ H δ σ ∧ PostT (m rt δ M) (stdT Z ρ H Q) (stdX Z W ρ H σ)
def tA (Z : Am) (rt : Rt) (W : WX) (m : SA) : TA := fun σ H Q => ∃ ρ M δ, Rl Z ρ M H ∧ SlO Z ρ H δ σ ∧ PostA (m rt δ M) (stdA Z ρ H Q) (stdX Z W ρ H σ)

def RE.bind (r : RE) (f : D → Mem → RE) : RE := match r with
  | .ok d M => f d M
  | .exc x M => .exc x M
  | .bad => .bad
def RE.bindT (r : RE) (f : D → Mem → RT) : RT := match r with
  | .ok d M => f d M
  | .exc x M => .exc x M
  | .bad => .bad
def RE.bindA (r : RE) (f : D → Mem → RA) : RA := match r with
  | .ok d M => f d M
  | .exc x M => .exc x M
  | .bad => .bad
def RT.bind (r : RT) (f : Bool → Mem → RE) : RE := match r with
  | .ok d M => f d M
  | .exc x M => .exc x M
  | .bad => .bad
def RT.bindT (r : RT) (f : Bool → Mem → RT) : RT := match r with
  | .ok d M => f d M
  | .exc x M => .exc x M
  | .bad => .bad
def RT.bindA (r : RT) (f : Bool → Mem → RA) : RA := match r with
  | .ok d M => f d M
  | .exc x M => .exc x M
  | .bad => .bad
def RA.bind (r : RA) (f : List D → Mem → RE) : RE := match r with
  | .ok d M => f d M
  | .exc x M => .exc x M
  | .bad => .bad
def RA.bindT (r : RA) (f : List D → Mem → RT) : RT := match r with
  | .ok d M => f d M
  | .exc x M => .exc x M
  | .bad => .bad
def RA.bindA (r : RA) (f : List D → Mem → RA) : RA := match r with
  | .ok d M => f d M
  | .exc x M => .exc x M
  | .bad => .bad

structure Tied (Z : Am) (X : Cx) (W : WX) : Prop where
  K : X.K = Z.K
  nd : X.N.Nodup
  tk : Takes X W
section
variable {Z : Am} {rt : Rt} {W : WX} {X : Cx} {ρ ρ0 ρ' : Rho} {M : Mem} {H H0 H' : Hp} {δ : Slots} {σ : L2.St} {Q Q' : VK} {QT QT' : Bool → Hp → Prop} {QA QA' : List V → Hp → Prop}
theorem PE.imp {e : Expr} {t t' : TE} (h : PE X e t) (i : ∀ σ H Q, t' σ H Q → t σ H Q) : PE X e t' := ⟨fun pins s σ H Q I q => h.run pins s σ H Q I (i σ H Q q)⟩
theorem PT.imp {e : Expr} {t t' : TT} (h : PT X e t) (i : ∀ σ H Q, t' σ H Q → t σ H Q) : PT X e t' := ⟨fun pins s σ H Q I q => h.run pins s σ H Q I (i σ H Q q)⟩
theorem PW.imp {e : Expr} {t t' : TT} (h : PW X e t) (i : ∀ σ H Q, t' σ H Q → t σ H Q) : PW X e t' := ⟨fun wh pins s σ H Q I q => h.run wh pins s σ H Q I (i σ H Q q)⟩
theorem PA.imp {es : List Expr} {t t' : TA} (h : PA X es t) (i : ∀ σ H Q, t' σ H Q → t σ H Q) : PA X es t' := ⟨fun pos pins s σ H Q I q => h.run pos pins s σ H Q I (i σ H Q q)⟩
theorem tE.thn {m : SE} (h : tE Z rt W m σ H Q) (i : ∀ v H', Q v H' → Q' v H') : tE Z rt W m σ H Q' := by
  obtain ⟨ρ, M, δ, r, s, q⟩ := h
  refine ⟨ρ, M, δ, r, s, ?_⟩
  cases hm : m rt δ M with
  | ok d M1 => rw [hm] at q; exact fun ρ' v H' e r p => i v H' (q ρ' v H' e r p)
  | exc x M1 => rw [hm] at q; exact q
  | bad => rw [hm] at q; exact q
theorem tT.thn {m : ST} (h : tT Z rt W m σ H QT) (i : ∀ v H', QT v H' → QT' v H') : tT Z rt W m σ H QT' := by
  obtain ⟨ρ, M, δ, r, s, q⟩ := h
  refine ⟨ρ, M, δ, r, s, ?_⟩
  cases hm : m rt δ M with
  | ok d M1 => rw [hm] at q; exact fun ρ' H' e r => i d H' (q ρ' H' e r)
  | exc x M1 => rw [hm] at q; exact q
  | bad => rw [hm] at q; exact q
theorem tA.thn {m : SA} (h : tA Z rt W m σ H QA) (i : ∀ v H', QA v H' → QA' v H') : tA Z rt W m σ H QA' := by
  obtain ⟨ρ, M, δ, r, s, q⟩ := h
  refine ⟨ρ, M, δ, r, s, ?_⟩
  cases hm : m rt δ M with
  | ok d M1 => rw [hm] at q; exact fun ρ' v H' e r p => i v H' (q ρ' v H' e r p)
  | exc x M1 => rw [hm] at q; exact q
  | bad => rw [hm] at q; exact q

theorem useEE {m : SE} {f : D → Mem → RE} {OK : D → Mem → Prop} (r : Rl Z ρ M H) (s : SlO Z ρ H δ σ) (e : Ext ρ0 H0 ρ H) (h : PostE ((m rt δ M).bind f) OK (stdX Z W ρ0 H0 σ)) :
    tE Z rt W m σ H (fun v H1 => ∃ ρ1 M1 d1, Ext ρ H ρ1 H1 ∧ Rl Z ρ1 M1 H1 ∧ RepD Z ρ1 H1 d1 v ∧ PostE (f d1 M1) OK (stdX Z W ρ0 H0 σ)) := by
  refine ⟨ρ, M, δ, r, s, ?_⟩
  cases hm : m rt δ M with
  | ok d M1 =>
    rw [hm] at h
    exact fun ρ' v H' e' r' p' => ⟨ρ', M1, d, e', r', p', h⟩
  | exc x M1 =>
    rw [hm] at h
    exact fun ρ' cls dx H' e' r' p' => h ρ' cls dx H' (e.trans e') r' p'
  | bad =>
    rw [hm] at h
    exact h.elim
theorem useET {m : SE} {f : D → Mem → RT} {OK : Bool → Mem → Prop} (r : Rl Z ρ M H) (s : SlO Z ρ H δ σ) (e : Ext ρ0 H0 ρ H) (h : PostT ((m rt δ M).bindT f) OK (stdX Z W ρ0 H0 σ)) :
    tE Z rt W m σ H (fun v H1 => ∃ ρ1 M1 d1, Ext ρ H ρ1 H1 ∧ Rl Z ρ1 M1 H1 ∧ RepD Z ρ1 H1 d1 v ∧ PostT (f d1 M1) OK (stdX Z W ρ0 H0 σ)) := by
  refine ⟨ρ, M, δ, r, s, ?_⟩
  cases hm : m rt δ M with
  | ok d M1 =>
    rw [hm] at h
    exact fun ρ' v H' e' r' p' => ⟨ρ', M1, d, e', r', p', h⟩
  | exc x M1 =>
    rw [hm] at h
    exact fun ρ' cls dx H' e' r' p' => h ρ' cls dx H' (e.trans e') r' p'
  | bad =>
    rw [hm] at h
    exact h.elim
theorem useEA {m : SE} {f : D → Mem → RA} {OK : List D → Mem → Prop} (r : Rl Z ρ M H) (s : SlO Z ρ H δ σ) (e : Ext ρ0 H0 ρ H) (h : PostA ((m rt δ M).bindA f) OK (stdX Z W ρ0 H0 σ)) :
    tE Z rt W m σ H (fun v H1 => ∃ ρ1 M1 d1, Ext ρ H ρ1 H1 ∧ Rl Z ρ1 M1 H1 ∧ RepD Z ρ1 H1 d1 v ∧ PostA (f d1 M1) OK (stdX Z W ρ0 H0 σ)) := by
  refine ⟨ρ, M, δ, r, s, ?_⟩
  cases hm : m rt δ M with
  | ok d M1 =>
    rw [hm] at h
    exact fun ρ' v H' e' r' p' => ⟨ρ', M1, d, e', r', p', h⟩
  | exc x M1 =>
    rw [hm] at h
    exact fun ρ' cls dx H' e' r' p' => h ρ' cls dx H' (e.trans e') r' p'
  | bad =>
    rw [hm] at h
    exact h.elim
theorem useTE {m : ST} {f : Bool → Mem → RE} {OK : D → Mem → Prop} (r : Rl Z ρ M H) (s : SlO Z ρ H δ σ) (e : Ext ρ0 H0 ρ H) (h : PostE ((m rt δ M).bind f) OK (stdX Z W ρ0 H0 σ)) :
    tT Z rt W m σ H (fun d1 H1 => ∃ ρ1 M1, Ext ρ H ρ1 H1 ∧ Rl Z ρ1 M1 H1 ∧ PostE (f d1 M1) OK (stdX Z W ρ0 H0 σ)) := by
  refine ⟨ρ, M, δ, r, s, ?_⟩
  cases hm : m rt δ M with
  | ok d M1 =>
    rw [hm] at h
    exact fun ρ' H' e' r' => ⟨ρ', M1, e', r', h⟩
  | exc x M1 =>
    rw [hm] at h
    exact fun ρ' cls dx H' e' r' p' => h ρ' cls dx H' (e.trans e') r' p'
  | bad =>
    rw [hm] at h
    exact h.elim
theorem useTT {m : ST} {f : Bool → Mem → RT} {OK : Bool → Mem → Prop} (r : Rl Z ρ M H) (s : SlO Z ρ H δ σ) (e : Ext ρ0 H0 ρ H) (h : PostT ((m rt δ M).bindT f) OK (stdX Z W ρ0 H0 σ)) :
    tT Z rt W m σ H (fun d1 H1 => ∃ ρ1 M1, Ext ρ H ρ1 H1 ∧ Rl Z ρ1 M1 H1 ∧ PostT (f d1 M1) OK (stdX Z W ρ0 H0 σ)) := by
  refine ⟨ρ, M, δ, r, s, ?_⟩
  cases hm : m rt δ M with
  | ok d M1 =>
    rw [hm] at h
    exact fun ρ' H' e' r' => ⟨ρ', M1, e', r', h⟩
  | exc x M1 =>
    rw [hm] at h
    exact fun ρ' cls dx H' e' r' p' => h ρ' cls dx H' (e.trans e') r' p'
  | bad =>
    rw [hm] at h
    exact h.elim
theorem useTA {m : ST} {f : Bool → Mem → RA} {OK : List D → Mem → Prop} (r : Rl Z ρ M H) (s : SlO Z ρ H δ σ) (e : Ext ρ0 H0 ρ H) (h : PostA ((m rt δ M).bindA f) OK (stdX Z W ρ0 H0 σ)) :
    tT Z rt W m σ H (fun d1 H1 => ∃ ρ1 M1, Ext ρ H ρ1 H1 ∧ Rl Z ρ1 M1 H1 ∧ PostA (f d1 M1) OK (stdX Z W ρ0 H0 σ)) := by
  refine ⟨ρ, M, δ, r, s, ?_⟩
  cases hm : m rt δ M with
  | ok d M1 =>
    rw [hm] at h
    exact fun ρ' H' e' r' => ⟨ρ', M1, e', r', h⟩
  | exc x M1 =>
    rw [hm] at h
    exact fun ρ' cls dx H' e' r' p' => h ρ' cls dx H' (e.trans e') r' p'
  | bad =>
    rw [hm] at h
    exact h.elim
theorem useAE {m : SA} {f : List D → Mem → RE} {OK : D → Mem → Prop} (r : Rl Z ρ M H) (s : SlO Z ρ H δ σ) (e : Ext ρ0 H0 ρ H) (h : PostE ((m rt δ M).bind f) OK (stdX Z W ρ0 H0 σ)) :
    tA Z rt W m σ H (fun vs H1 => ∃ ρ1 M1 d1, Ext ρ H ρ1 H1 ∧ Rl Z ρ1 M1 H1 ∧ RepDs Z ρ1 H1 d1 vs ∧ PostE (f d1 M1) OK (stdX Z W ρ0 H0 σ)) := by
  refine ⟨ρ, M, δ, r, s, ?_⟩
  cases hm : m rt δ M with
  | ok d M1 =>
    rw [hm] at h
    exact fun ρ' v H' e' r' p' => ⟨ρ', M1, d, e', r', p', h⟩
  | exc x M1 =>
    rw [hm] at h
    exact fun ρ' cls dx H' e' r' p' => h ρ' cls dx H' (e.trans e') r' p'
  | bad =>
    rw [hm] at h
    exact h.elim
theorem useAT {m : SA} {f : List D → Mem → RT} {OK : Bool → Mem → Prop} (r : Rl Z ρ M H) (s : SlO Z ρ H δ σ) (e : Ext ρ0 H0 ρ H) (h : PostT ((m rt δ M).bindT f) OK (stdX Z W ρ0 H0 σ)) :
    tA Z rt W m σ H (fun vs H1 => ∃ ρ1 M1 d1, Ext ρ H ρ1 H1 ∧ Rl Z ρ1 M1 H1 ∧ RepDs Z ρ1 H1 d1 vs ∧ PostT (f d1 M1) OK (stdX Z W ρ0 H0 σ)) := by
  refine ⟨ρ, M, δ, r, s, ?_⟩
  cases hm : m rt δ M with
  | ok d M1 =>
    rw [hm] at h
    exact fun ρ' v H' e' r' p' => ⟨ρ', M1, d, e', r', p', h⟩
  | exc x M1 =>
    rw [hm] at h
    exact fun ρ' cls dx H' e' r' p' => h ρ' cls dx H' (e.trans e') r' p'
  | bad =>
    rw [hm] at h
    exact h.elim
theorem useAA {m : SA} {f : List D → Mem → RA} {OK : List D → Mem → Prop} (r : Rl Z ρ M H) (s : SlO Z ρ H δ σ) (e : Ext ρ0 H0 ρ H) (h : PostA ((m rt δ M).bindA f) OK (stdX Z W ρ0 H0 σ)) :
    tA Z rt W m σ H (fun vs H1 => ∃ ρ1 M1 d1, Ext ρ H ρ1 H1 ∧ Rl Z ρ1 M1 H1 ∧ RepDs Z ρ1 H1 d1 vs ∧ PostA (f d1 M1) OK (stdX Z W ρ0 H0 σ)) := by
  refine ⟨ρ, M, δ, r, s, ?_⟩
  cases hm : m rt δ M with
  | ok d M1 =>
    rw [hm] at h
    exact fun ρ' v H' e' r' p' => ⟨ρ', M1, d, e', r', p', h⟩
  | exc x M1 =>
    rw [hm] at h
    exact fun ρ' cls dx H' e' r' p' => h ρ' cls dx H' (e.trans e') r' p'
  | bad =>
    rw [hm] at h
    exact h.elim

theorem stdO.mono (e : Ext ρ0 H0 ρ H) {d : D} {M : Mem} (h : stdO Z ρ0 H0 Q d M) : stdO Z ρ H Q d M := fun ρ' v H' e' r' p' => h ρ' v H' (e.trans e') r' p'
theorem stdX.mono (e : Ext ρ0 H0 ρ H) {d : Exn} {M : Mem} (h : stdX Z W ρ0 H0 σ d M) : stdX Z W ρ H σ d M := fun ρ' c v H' e' r' p' => h ρ' c v H' (e.trans e') r' p'
theorem stdT.mono (e : Ext ρ0 H0 ρ H) {d : Bool} {M : Mem} (h : stdT Z ρ0 H0 QT d M) : stdT Z ρ H QT d M := fun ρ' H' e' r' => h ρ' H' (e.trans e') r'
theorem stdA.mono (e : Ext ρ0 H0 ρ H) {d : List D} {M : Mem} (h : stdA Z ρ0 H0 QA d M) : stdA Z ρ H QA d M := fun ρ' v H' e' r' p' => h ρ' v H' (e.trans e') r' p'
theorem PostE.mono (e : Ext ρ0 H0 ρ H) {r : RE} {EX : Exn → Mem → Prop} (h : PostE r (stdO Z ρ0 H0 Q) EX) : PostE r (stdO Z ρ H Q) EX := by
  cases r with
  | ok d M => exact stdO.mono e h
  | exc x M => exact h
  | bad => exact h
/-- the rest is run from here -/
theorem restE {m : SE} (r : Rl Z ρ M H) (s : SlO Z ρ H δ σ) (e : Ext ρ0 H0 ρ H) (h : PostE (m rt δ M) (stdO Z ρ0 H0 Q) (stdX Z W ρ0 H0 σ)) : tE Z rt W m σ H Q := by
  refine ⟨ρ, M, δ, r, s, ?_⟩
  cases hm : m rt δ M with
  | ok d M1 => rw [hm] at h; exact stdO.mono e h
  | exc x M1 => rw [hm] at h; exact stdX.mono e h
  | bad => rw [hm] at h; exact h
theorem restT {m : ST} (r : Rl Z ρ M H) (s : SlO Z ρ H δ σ) (e : Ext ρ0 H0 ρ H) (h : PostT (m rt δ M) (stdT Z ρ0 H0 QT) (stdX Z W ρ0 H0 σ)) : tT Z rt W m σ H QT := by
  refine ⟨ρ, M, δ, r, s, ?_⟩
  cases hm : m rt δ M with
  | ok d M1 => rw [hm] at h; exact stdT.mono e h
  | exc x M1 => rw [hm] at h; exact stdX.mono e h
  | bad => rw [hm] at h; exact h
theorem restA {m : SA} (r : Rl Z ρ M H) (s : SlO Z ρ H δ σ) (e : Ext ρ0 H0 ρ H) (h : PostA (m rt δ M) (stdA Z ρ0 H0 QA) (stdX Z W ρ0 H0 σ)) : tA Z rt W m σ H QA := by
  refine ⟨ρ, M, δ, r, s, ?_⟩
  cases hm : m rt δ M with
  | ok d M1 => rw [hm] at h; exact stdA.mono e h
  | exc x M1 => rw [hm] at h; exact stdX.mono e h
  | bad => rw [hm] at h; exact h

/-! ### names, constants -/
def cst (d : P) : SE := fun _ _ M => .ok (.p d) M
def var (i : Nat) : SE := fun _ δ M => match δ[i]? with
  | some (some d) => .ok d M
  | _ => .bad
def badE : SE := fun _ _ _ => .bad
theorem pv_bad {e : Expr} : PE X e (tE Z rt W badE) := ⟨fun pins s σ H Q I h => by
  obtain ⟨ρ, M, δ, r, s, q⟩ := h
  exact (show False from q).elim⟩
theorem tE_cst {d : P} (h : tE Z rt W (cst d) σ H Q) : ∀ v, Rep Z H d v → Q v H := fun v hv => by
  obtain ⟨ρ, M, δ, r, s, q⟩ := h
  exact q ρ v H Ext.refl r hv
theorem pv_int {i : Int} {j pos} : PE X (.Constant (.int i) j pos) (tE Z rt W (cst (.int i))) := PE.imp pe_int fun σ H Q h => tE_cst h (.int i) (by unfold Rep; rfl)
theorem pv_bl {b : Bool} {j pos} : PE X (.Constant (.bool b) j pos) (tE Z rt W (cst (.bl b))) := PE.imp pe_bl fun σ H Q h => tE_cst h (.bl b) (by unfold Rep; rfl)
theorem pv_non {j pos} : PE X (.Constant .none j pos) (tE Z rt W (cst .non)) := PE.imp pe_non fun σ H Q h => tE_cst h .non (by unfold Rep; rfl)
theorem pv_str {x : Str} {j pos} : PE X (.Constant (.str x) j pos) (tE Z rt W (cst (.str x.cps.toList))) := PE.imp pe_str fun σ H Q h => tE_cst h (.str x) (by unfold Rep; simp)
theorem pv_var {i : Nat} {x : Str} {pos : Pos} (hN : X.N[i]? = some x) (hv : Vis X.env.scope x) (hd : (x == ("__debug__" : Str)) = false) (hcd : (x == ("__classdict__" : Str)) = false) : PE X (.Name x pos) (tE Z rt W (var i)) := by
  refine PE.imp (pe_var hN hv hd hcd) fun σ H Q h => ?_
  obtain ⟨ρ, M, δ, r, s, q⟩ := h
  unfold var at q
  split at q
  · rename_i d e
    obtain ⟨v, h1, h2⟩ := s.at_ i d e
    exact ⟨v, h1, q ρ v H Ext.refl r h2⟩
  · exact q.elim
/-- a global whose value is known -/
theorem pv_glob {x : Str} {v : V} {u : Value} {d : P} {pos : Pos} (hg : Gl X x) (hm : X.mg x = some u) (rv : RelV v u) (hr : ∀ H, Rep Z H d v) (hd : (x == ("__debug__" : Str)) = false) : PE X (.Name x pos) (tE Z rt W (cst d)) :=
  PE.imp (pe_glob hg hm rv hd) fun σ H Q h => tE_cst h v (hr H)

/-! ### operators -/
/-- an operation by data: no exception -/
inductive RO where
  | ok (d : P) | lst (ds : List P) | bad
abbrev O2 := D → D → Mem → RE
def binE (op : O2) (a b : SE) : SE := fun rt δ M => (a rt δ M).bind fun x M1 => (b rt δ M1).bind fun y M2 => op x y M2
def unE (op : D → Mem → RE) (a : SE) : SE := fun rt δ M => (a rt δ M).bind fun x M1 => op x M1
/-- an operation's demand of values, by data; nothing is raised -/
def rD (Z : Am) (op : O2) : R2 := fun x y H Q => ∃ ρ M d1 d2, Rl Z ρ M H ∧ RepD Z ρ H d1 x ∧ RepD Z ρ H d2 y ∧ PostE (op d1 d2 M) (stdO Z ρ H Q) (fun _ _ => False)
def rD1 (Z : Am) (op : D → Mem → RE) : V → Hp → VK → Prop := fun x H Q => ∃ ρ M d1, Rl Z ρ M H ∧ RepD Z ρ H d1 x ∧ PostE (op d1 M) (stdO Z ρ H Q) (fun _ _ => False)
def rDA (Z : Am) (op : List D → Mem → RE) : List V → Hp → VK → Prop := fun xs H Q => ∃ ρ M ds, Rl Z ρ M H ∧ RepDs Z ρ H ds xs ∧ PostE (op ds M) (stdO Z ρ H Q) (fun _ _ => False)
/-- an operation that raises nothing -/
def NoX (r : RE) : Prop := ∀ x M, r ≠ .exc x M
theorem PostE.noX {r : RE} {OK : D → Mem → Prop} {EX EX' : Exn → Mem → Prop} (n : NoX r) (h : PostE r OK EX) : PostE r OK EX' := by
  cases r with
  | ok d M => exact h
  | exc x M => exact absurd rfl (n x M)
  | bad => exact h
theorem tOp_of {r : R2} {op : O2} {ma mb : SE} (hn : ∀ x y M, NoX (op x y M)) (hr : ∀ x y H Q, rD Z op x y H Q → r x y H Q) (h : tE Z rt W (binE op ma mb) σ H Q) : tOp r (tE Z rt W ma) (tE Z rt W mb) σ H Q := by
  obtain ⟨ρ, M, δ, r0, s, q⟩ := h
  refine tE.thn (useEE (ρ0 := ρ) (H0 := H) r0 s Ext.refl q) fun x H1 ⟨ρ1, M1, d1, e1, r1, p1, q1⟩ => ?_
  refine tE.thn (useEE (ρ0 := ρ) (H0 := H) r1 (s.ext e1) e1 q1) fun y H2 ⟨ρ2, M2, d2, e2, r2, p2, q2⟩ => ?_
  exact hr x y H2 Q ⟨ρ2, M2, d1, d2, r2, p1.ext e2, p2, (q2.noX (hn _ _ _)).mono (e1.trans e2)⟩
theorem tUn_of {r : V → Hp → VK → Prop} {op : D → Mem → RE} {ma : SE} (hn : ∀ x M, NoX (op x M)) (hr : ∀ x H Q, rD1 Z op x H Q → r x H Q) (h : tE Z rt W (unE op ma) σ H Q) : tUn r (tE Z rt W ma) σ H Q := by
  obtain ⟨ρ, M, δ, r0, s, q⟩ := h
  refine tE.thn (useEE (ρ0 := ρ) (H0 := H) r0 s Ext.refl q) fun x H1 ⟨ρ1, M1, d1, e1, r1, p1, q1⟩ => ?_
  exact hr x H1 Q ⟨ρ1, M1, d1, r1, p1, (q1.noX (hn _ _)).mono e1⟩
theorem pv_bin {op : Operator} {f : O2} {a b : Expr} {ma mb : SE} {pos : Pos} (hn : ∀ x y M, NoX (f x y M)) (ho : OpR X (binaryOp op) (rD Z f)) (ha : PE X a (tE Z rt W ma)) (hb : PE X b (tE Z rt W mb)) :
    PE X (.BinOp a op b pos) (tE Z rt W (binE f ma mb)) := PE.imp (pe_op ho ha hb) fun _ _ _ h => tOp_of hn (fun _ _ _ _ h => h) h
theorem pv_cmp {op : CmpOp} {f : O2} {a b : Expr} {ma mb : SE} {pos : Pos} (hn : ∀ x y M, NoX (f x y M)) (ho : OpR X (compareOp op) (rD Z f)) (ha : PE X a (tE Z rt W ma)) (hb : PE X b (tE Z rt W mb)) (hm : behindInMarks op b = false) :
    PE X (.Compare a [op] [b] pos) (tE Z rt W (binE f ma mb)) := PE.imp (pe_cmpR ho ha hb hm) fun _ _ _ h => tOp_of hn (fun _ _ _ _ h => h) h
theorem pv_un {op : UnaryOp} {f : D → Mem → RE} {a : Expr} {ma : SE} {pos : Pos} (hn : ∀ x M, NoX (f x M)) (ho : UnR X (unaryOp op) (rD1 Z f)) (ha : PE X a (tE Z rt W ma)) :
    PE X (.UnaryOp op a pos) (tE Z rt W (unE f ma)) := PE.imp (pe_un ho ha) fun _ _ _ h => tUn_of hn (fun _ _ _ h => h) h

/-! ### truth -/
/-- a value's truth -/
def truD (d : D) (M : Mem) : RT := match d with
  | .p .non => .ok false M
  | .p (.bl b) => .ok b M
  | .p (.int i) => .ok (!(i == 0)) M
  | .p (.str s) => if s.length ≤ 100000 then .ok (!s.isEmpty) M else .bad
  | .p (.tup ds) => .ok (!ds.isEmpty) M
  | .p (.lst ds) => .ok (!ds.isEmpty) M
  | .loc n => match M.at_ n with
    | some ds => .ok (!ds.isEmpty) M
    | none => .bad
  | _ => .bad
theorem repL_empty {ds : List P} {xs : List V} (h : RepL Z H ds xs) : (!xs.isEmpty) = !ds.isEmpty := by
  have := h.length
  cases ds <;> cases xs <;> simp at this ⊢
theorem tru_of (hK : X.K = Z.K) {d : D} {v : V} (r : Rl Z ρ M H) (p : RepD Z ρ H d v) {OK : Bool → Mem → Prop} {EX : Exn → Mem → Prop} (h : PostT (truD d M) OK EX) : ∃ k, TruV X.K v H k ∧ OK k M := by
  rw [hK]
  unfold truD at h
  split at h
  · have p : v = .non := by simpa [RepD, Rep] using p
    subst p
    exact ⟨false, rfl, h⟩
  · rename_i b
    have p : v = .bl b := by simpa [RepD, Rep] using p
    subst p
    exact ⟨b, rfl, h⟩
  · rename_i i
    have p : v = .int i := by simpa [RepD, Rep] using p
    subst p
    exact ⟨_, rfl, h⟩
  · rename_i z
    have p : v = .str ⟨z.toArray⟩ := by simpa [RepD, Rep] using p
    subst p
    split at h
    · rename_i hz
      have hl : (⟨z.toArray⟩ : Str).length = z.length := by simp [Str.length]
      refine ⟨!z.isEmpty, ⟨by rw [hl, sizeLine_eq]; omega, ?_⟩, h⟩
      rw [hl]
      cases z with
      | nil => rfl
      | cons a l =>
        have : ((a :: l).length : Int) ≠ 0 := by simp; omega
        simp [this]
        omega
    · exact h.elim
  · rename_i ds
    obtain ⟨a, xs, e, hs, hl⟩ : ∃ a xs, v = .ref a ∧ SqT Z.K H a xs ∧ RepL Z H ds xs := by simpa [RepD, Rep] using p
    subst e
    exact ⟨_, .inr (.inl ⟨xs, hs, (repL_empty hl).symm⟩), h⟩
  · rename_i ds
    obtain ⟨a, xs, e, hs, hl⟩ : ∃ a xs, v = .ref a ∧ Sq0 Z.K H a xs ∧ RepL Z H ds xs := by simpa [RepD, Rep] using p
    subst e
    exact ⟨_, .inl ⟨xs, hs.seq, (repL_empty hl).symm⟩, h⟩
  · rename_i n
    split at h
    · rename_i ds hd
      obtain ⟨a, e, ha⟩ := p
      obtain ⟨es, xs, h1, h2, h3⟩ := r.num n a ha
      rw [hd] at h1
      cases h1
      subst e
      exact ⟨_, .inl ⟨xs, .of h2, (repL_empty h3).symm⟩, h⟩
    · exact h.elim
  · exact h.elim
/-- an expression as a test, by its value's truth -/
def truE (a : SE) : ST := fun rt δ M => (a rt δ M).bindT fun d M1 => truD d M1
theorem tT_truth {ma : SE} (hK : X.K = Z.K) (h : tT Z rt W (truE ma) σ H QT) : tE Z rt W ma σ H fun x H' => ∃ k, TruV X.K x H' k ∧ QT k H' := by
  obtain ⟨ρ, M, δ, r, s, q⟩ := h
  refine tE.thn (useET (ρ0 := ρ) (H0 := H) r s Ext.refl q) fun x H1 ⟨ρ1, M1, d1, e1, r1, p1, q1⟩ => ?_
  obtain ⟨k, hk, q2⟩ := tru_of hK r1 p1 q1
  exact ⟨k, hk, q2 ρ1 H1 e1 r1⟩
theorem pt_val {a : Expr} {ma : SE} (hK : X.K = Z.K) (ha : PE X a (tE Z rt W ma)) (he : ∀ whole, isTrue a X.env whole = (do let v ← whole; standAt a.pos; holding [v] (truthy v))) : PT X a (tT Z rt W (truE ma)) :=
  PT.imp (pt_truth ha he) fun _ _ _ h => tT_truth hK h
theorem pt_cmp2 {op : CmpOp} {a b : Expr} {t : TE} {pos : Pos} {ma : SE} (hK : X.K = Z.K) (h : PT X (.Compare a [op] [b] pos) (tTest t)) (hi : ∀ σ H Q, tE Z rt W ma σ H Q → t σ H Q) (hb : ∀ rt δ M d M', ma rt δ M = .ok d M' → ∃ k, d = .p (.bl k)) :
    PT X (.Compare a [op] [b] pos) (tT Z rt W (truE ma)) := PT.imp h fun σ H Q q => by
  obtain ⟨ρ, M, δ, r, s, q⟩ := q
  refine hi _ _ _ ⟨ρ, M, δ, r, s, ?_⟩
  unfold truE at q
  cases hm : ma rt δ M with
  | ok d M1 =>
    rw [hm] at q
    obtain ⟨k, e⟩ := hb _ _ _ _ _ hm
    subst e
    exact fun ρ' v H' e' r' p' => ⟨k, (by simpa [RepD, Rep] using p'), q ρ' H' e' r'⟩
  | exc x M1 =>
    rw [hm] at q
    exact q
  | bad =>
    rw [hm] at q
    exact q
end
end FW
/-! FwC: operators on data. -/
namespace FW
open PySem PySem.Spec PyProof.Rows L2

def lstOf (d : D) (M : Mem) : Option (List P) := match d with
  | .p (.lst ds) => some ds
  | .loc n => M.at_ n
  | _ => none
/-- a new list, numbered (mk) or one that nobody writes -/
def finL (mk : Bool) (ds : List P) (M : Mem) : RE := if mk then .ok (.loc M.nx) (M.new ds) else .ok (.p (.lst ds)) M
def small (n : Nat) : Bool := Nat.ble n 100000
theorem small_le {n : Nat} (h : small n = true) : n ≤ 100000 := Nat.le_of_ble_eq_true h
section
variable {Z : Am} {rt : Rt} {W : WX} {X : Cx} {ρ ρ0 ρ' : Rho} {M : Mem} {H H0 H' : Hp} {δ : Slots} {σ : L2.St} {Q Q' : VK}
theorem lstOf_ok {d : D} {v : V} {ds : List P} (r : Rl Z ρ M H) (p : RepD Z ρ H d v) (h : lstOf d M = some ds) : ∃ a xs, v = .ref a ∧ SqL Z.K H a xs ∧ RepL Z H ds xs := by
  unfold lstOf at h
  split at h
  · cases h
    obtain ⟨a, xs, e, hs, hl⟩ : ∃ a xs, v = .ref a ∧ Sq0 Z.K H a xs ∧ RepL Z H ds xs := by simpa [RepD, Rep] using p
    exact ⟨a, xs, e, hs.seq, hl⟩
  · obtain ⟨a, e, ha⟩ := p
    obtain ⟨es, xs, h1, h2, h3⟩ := r.num _ a ha
    rw [h] at h1
    cases h1
    exact ⟨a, xs, e, .of h2, h3⟩
  · cases h
/-- the value, or a new list that is locked from now on -/
def LK (Q : VK) : VK := fun v H' => Q v H' ∨ ∃ p xs, v = .ref p ∧ H' p = some (.lst xs) ∧ ∀ o, Q (.ref p) (upd H' p (.frz o (.lst xs)))
theorem EP.lk {pins : List (Addr × Obj)} {u : Value} {s : Shared} (h : EP X pins σ (LK Q) u s) : EP X pins σ Q u s := by
  obtain ⟨v, H', I, r, q⟩ := h
  rcases q with q | ⟨p, xs, e, hp, q⟩
  · exact ⟨v, H', I, r, q⟩
  · subst e
    obtain ⟨o, I2⟩ := I.lock hp True.intro
    exact ⟨_, _, I2, r, q o⟩
theorem OpR.lk {f : Value → Value → Sem Value} {r : R2} (h : OpR X f r) : OpR X f (fun x y H Q => r x y H (LK Q)) := fun pins s σ H x y v u Q I rx ry q =>
  thn (h pins s σ H x y v u (LK Q) I rx ry q) fun _ _ z => EP.lk z
theorem CallR.lk {f : Value} {r : List V → Hp → VK → Prop} (h : CallR X f r) : CallR X f (fun xs H Q => r xs H (LK Q)) := fun pins s σ H xs us Q I rx q =>
  thn (h pins s σ H xs us (LK Q) I rx q) fun _ _ z => EP.lk z
theorem PE.lk {e : Expr} {t : TE} (h : PE X e t) : PE X e (fun σ H Q => t σ H (LK Q)) := ⟨fun pins s σ H Q I q =>
  thn (h.run pins s σ H (LK Q) I q) fun _ _ z => EP.lk z⟩
theorem finL_ok {mk : Bool} {ds : List P} {xs : List V} {p : Addr} {EX : Exn → Mem → Prop} (r : Rl Z ρ M H) (hp : H p = none) (h : RepL Z H ds xs) (q : PostE (finL mk ds M) (stdO Z ρ H Q) EX) : LK Q (.ref p) (upd H p (.lst xs)) := by
  unfold finL at q
  cases mk with
  | true =>
    obtain ⟨ρ', r', e', h'⟩ := r.new hp h
    exact .inl (q ρ' (.ref p) _ e' r' ⟨p, rfl, h'⟩)
  | false =>
    refine .inr ⟨p, xs, rfl, upd_same, fun o => ?_⟩
    rw [upd_upd]
    obtain ⟨r', e'⟩ := r.laid (o := .frz o (.lst xs)) hp
    exact q ρ (.ref p) _ e' r' (by show Rep Z _ _ _; unfold Rep; exact ⟨p, xs, rfl, .inl ⟨o, upd_same⟩, h.ext e'⟩)
theorem tup_ok {ds : List P} {xs : List V} {p : Addr} (r : Rl Z ρ M H) (hp : H p = none) (h : RepL Z H ds xs) (q : stdO Z ρ H Q (.p (.tup ds)) M) : Q (.ref p) (upd H p (.tup xs)) := by
  obtain ⟨r', e'⟩ := r.laid (o := .tup xs) hp
  exact q ρ (.ref p) _ e' r' (by show Rep Z _ _ _; unfold Rep; exact ⟨p, xs, rfl, .of upd_same, h.ext e'⟩)
theorem rep_int {i : Int} {v : V} (p : RepD Z ρ H (.p (.int i)) v) : v = .int i := by simpa [RepD, Rep] using p
theorem rep_bl {i : Bool} {v : V} (p : RepD Z ρ H (.p (.bl i)) v) : v = .bl i := by simpa [RepD, Rep] using p
theorem rep_non {v : V} (p : RepD Z ρ H (.p .non) v) : v = .non := by simpa [RepD, Rep] using p
theorem rep_str {i : List Nat} {v : V} (p : RepD Z ρ H (.p (.str i)) v) : v = .str ⟨i.toArray⟩ := by simpa [RepD, Rep] using p
theorem rep_tup {ds : List P} {v : V} (p : RepD Z ρ H (.p (.tup ds)) v) : ∃ a xs, v = .ref a ∧ SqT Z.K H a xs ∧ RepL Z H ds xs := by simpa [RepD, Rep] using p
theorem out_int {i : Int} {EX} (r : Rl Z ρ M H) (q : PostE (.ok (.p (.int i)) M) (stdO Z ρ H Q) EX) : Q (.int i) H := q ρ _ _ Ext.refl r (by show Rep Z _ _ _; unfold Rep; rfl)
theorem out_bl {i : Bool} {EX} (r : Rl Z ρ M H) (q : PostE (.ok (.p (.bl i)) M) (stdO Z ρ H Q) EX) : Q (.bl i) H := q ρ _ _ Ext.refl r (by show Rep Z _ _ _; unfold Rep; rfl)
theorem out_str {i : List Nat} {EX} (r : Rl Z ρ M H) (q : PostE (.ok (.p (.str i)) M) (stdO Z ρ H Q) EX) : Q (.str ⟨i.toArray⟩) H := q ρ _ _ Ext.refl r (by show Rep Z _ _ _; unfold Rep; rfl)

/-! ### + -/
/-- two lists, whoever may write them -/
def rCatL (K : PySem.W.Frag) : R2 := fun x y H Q => ∃ l b xs zs, x = .ref l ∧ y = .ref b ∧ SqL K H l xs ∧ SqL K H b zs ∧ xs.length + zs.length ≤ sizeLine ∧ ∀ p, H p = none → Q (.ref p) (upd H p (.lst (xs ++ zs)))
theorem op_catL : OpR X (binaryOp .Add) (rCatL X.K) := by
  intro pins s σ H x y v u Q I rx ry h
  obtain ⟨l, b, xs, zs, rfl, rfl, hH, hB, hz, q⟩ := h
  cases rx
  cases ry
  obtain ⟨its, r, pl, hl⟩ := I.list hH
  obtain ⟨its2, r2, pl2, hl2⟩ := I.list hB
  obtain ⟨⟨cls, dd, data, sl⟩, ho, hc, n, hd⟩ := pl.isList
  obtain ⟨⟨cls2, dd2, data2, sl2⟩, ho2, hc2, n2, hd2⟩ := pl2.isList
  simp only at hc hd hc2 hd2
  subst hc hd hc2 hd2
  have e : its.toArray ++ its2.toArray = (its ++ its2).toArray := by simp
  have n1 := r.length
  have n2 := r2.length
  refine concat_meets ⟨_, ho, rfl⟩ ⟨_, ho2, rfl⟩ noFill_list_add seq_list_add PySem.F.slot_list_add PySem.F.entry_list_add (PySem.F.args_list_add_2 _ _) (list_addW l b its.toArray its2.toArray n _ dd dd2 sl sl2 (by simp; omega)) ⟨ho, ho2, ?_⟩
  rw [e]
  exact ⟨.ref _, _, I.lnew (t' := s.toks) (r.append r2) (by rw [List.length_append]; omega), rfl, q _ I.fresh⟩

def addD (mk : Bool) : O2 := fun x y M => match x, y with
  | .p (.int i), .p (.int j) => .ok (.p (.int (i + j))) M
  | .p (.str a), .p (.str b) => if small (a.length + b.length) then .ok (.p (.str (a ++ b))) M else .bad
  | .p (.tup a), .p (.tup b) => if small (a.length + b.length) then .ok (.p (.tup (a ++ b))) M else .bad
  | x, y => match lstOf x M, lstOf y M with
    | some a, some b => if small (a.length + b.length) then finL mk (a ++ b) M else .bad
    | _, _ => .bad
theorem finL_noX {mk : Bool} {ds : List P} {M : Mem} : NoX (finL mk ds M) := fun x M' => by
  unfold finL; split <;> exact fun z => by cases z
theorem addD_noX (mk : Bool) (x y : D) (M : Mem) : NoX (addD mk x y M) := fun e M' => by
  unfold addD
  split
  · exact fun z => by cases z
  · split <;> exact fun z => by cases z
  · split <;> exact fun z => by cases z
  · split
    · split
      · exact finL_noX _ _
      · exact fun z => by cases z
    · exact fun z => by cases z
theorem op_addD (hK : X.K = Z.K) (mk : Bool) : OpR X (binaryOp .Add) (rD Z (addD mk)) := by
  intro pins s σ H x y v u Q I rx ry ⟨ρ, M, d1, d2, r, p1, p2, q⟩
  unfold addD at q
  split at q
  · have := rep_int p1
    have := rep_int p2
    subst_vars
    exact op_add pins s σ H _ _ v u Q I rx ry ⟨_, _, rfl, rfl, out_int r q⟩
  · rename_i a b
    have := rep_str p1
    have := rep_str p2
    subst_vars
    split at q
    · rename_i hz
      have hz := small_le hz
      refine op_add_str pins s σ H _ _ v u Q I rx ry ⟨_, _, rfl, rfl, ?_, ?_⟩
      · rw [sizeLine_eq]; simp [Str.length]; omega
      · have := out_str r q
        have e : (⟨a.toArray⟩ : Str) ++ ⟨b.toArray⟩ = ⟨(a ++ b).toArray⟩ := by
          show (⟨a.toArray ++ b.toArray⟩ : Str) = _
          simp
        rw [e]
        exact this
    · exact q.elim
  · rename_i a b
    obtain ⟨l, xs, e1, h1, l1⟩ := rep_tup p1
    obtain ⟨m, ys, e2, h2, l2⟩ := rep_tup p2
    subst e1
    subst e2
    split at q
    · rename_i hz
      have hz := small_le hz
      have n1 := l1.length
      have n2 := l2.length
      refine op_catA pins s σ H _ _ v u Q I rx ry ⟨l, m, xs, ys, rfl, rfl, by rw [hK]; exact h1, by rw [hK]; exact h2, by rw [sizeLine_eq]; omega, fun e => ?_, fun _ e => ?_, fun _ _ p hp => ?_⟩
      · subst e
        obtain rfl : a = [] := by cases a <;> simp at n1 ⊢
        exact q ρ _ _ Ext.refl r p2
      · subst e
        obtain rfl : b = [] := by cases b <;> simp at n2 ⊢
        rw [List.append_nil] at q
        exact q ρ _ _ Ext.refl r p1
      · exact tup_ok r hp (l1.append l2) q
    · exact q.elim
  · split at q
    · rename_i a b ha hb
      obtain ⟨l, xs, e1, h1, l1⟩ := lstOf_ok r p1 ha
      obtain ⟨m, ys, e2, h2, l2⟩ := lstOf_ok r p2 hb
      subst e1
      subst e2
      split at q
      · rename_i hz
        have hz := small_le hz
        have n1 := l1.length
        have n2 := l2.length
        exact OpR.lk op_catL pins s σ H _ _ v u Q I rx ry ⟨l, m, xs, ys, rfl, rfl, by rw [hK]; exact h1, by rw [hK]; exact h2, by rw [sizeLine_eq]; omega, fun p hp => finL_ok r hp (l1.append l2) q⟩
      · exact q.elim
    · exact q.elim

/-! ### the other ones on ints -/
def subD : O2 := fun x y M => match x, y with
  | .p (.int i), .p (.int j) => .ok (.p (.int (i - j))) M
  | _, _ => .bad
theorem op_subD : OpR X (binaryOp .Sub) (rD Z subD) := by
  intro pins s σ H x y v u Q I rx ry ⟨ρ, M, d1, d2, r, p1, p2, q⟩
  unfold subD at q
  split at q
  · have := rep_int p1
    have := rep_int p2
    subst_vars
    exact op_sub pins s σ H _ _ v u Q I rx ry ⟨_, _, rfl, rfl, out_int r q⟩
  · exact q.elim
theorem subD_noX (x y : D) (M : Mem) : NoX (subD x y M) := fun e M' => by
  unfold subD
  split <;> exact fun z => by cases z
def fdivD : O2 := fun x y M => match x, y with
  | .p (.int i), .p (.int j) => if decide (0 < j) && Nat.blt j.natAbs.log2 9000 then .ok (.p (.int (i / j))) M else .bad
  | _, _ => .bad
theorem op_fdivD : OpR X (binaryOp .FloorDiv) (rD Z fdivD) := by
  intro pins s σ H x y v u Q I rx ry ⟨ρ, M, d1, d2, r, p1, p2, q⟩
  unfold fdivD at q
  split at q
  · have := rep_int p1
    have := rep_int p2
    subst_vars
    split at q
    · rename_i hc
      have hc := Bool.and_eq_true_iff.mp hc
      exact op_fdivW pins s σ H _ _ v u Q I rx ry ⟨_, _, rfl, rfl, ⟨of_decide_eq_true hc.1, Nat.le_of_ble_eq_true hc.2⟩, out_int r q⟩
    · exact q.elim
  · exact q.elim
theorem fdivD_noX (x y : D) (M : Mem) : NoX (fdivD x y M) := fun e M' => by
  unfold fdivD
  split
  · split <;> exact fun z => by cases z
  · exact fun z => by cases z
def modD : O2 := fun x y M => match x, y with
  | .p (.int i), .p (.int j) => if decide (0 < j) then .ok (.p (.int (i % j))) M else .bad
  | _, _ => .bad
theorem op_modD : OpR X (binaryOp .Mod) (rD Z modD) := by
  intro pins s σ H x y v u Q I rx ry ⟨ρ, M, d1, d2, r, p1, p2, q⟩
  unfold modD at q
  split at q
  · have := rep_int p1
    have := rep_int p2
    subst_vars
    split at q
    · rename_i hc
      exact op_mod pins s σ H _ _ v u Q I rx ry ⟨_, _, rfl, rfl, of_decide_eq_true hc, out_int r q⟩
    · exact q.elim
  · exact q.elim
theorem modD_noX (x y : D) (M : Mem) : NoX (modD x y M) := fun e M' => by
  unfold modD
  split
  · split <;> exact fun z => by cases z
  · exact fun z => by cases z
def powD : O2 := fun x y M => match x, y with
  | .p (.int i), .p (.int j) => if decide (0 ≤ j) && Nat.ble ((i.natAbs.log2 + 1) * j.toNat) 100000000 then .ok (.p (.int (i ^ j.toNat))) M else .bad
  | _, _ => .bad
theorem op_powD : OpR X (binaryOp .Pow) (rD Z powD) := by
  intro pins s σ H x y v u Q I rx ry ⟨ρ, M, d1, d2, r, p1, p2, q⟩
  unfold powD at q
  split at q
  · rename_i i j
    have := rep_int p1
    have := rep_int p2
    subst_vars
    split at q
    · rename_i hc
      have hc := Bool.and_eq_true_iff.mp hc
      have hc : 0 ≤ j ∧ _ := ⟨of_decide_eq_true hc.1, hc.2⟩
      obtain ⟨t, rfl⟩ := rx
      obtain ⟨t', rfl⟩ := ry
      have h2 := Nat.le_of_ble_eq_true hc.2
      refine PyProof.Rows.pow_int hc.1 ?_ ⟨.int _, H, I.tok _, ⟨_, rfl⟩, out_int r q⟩
      have hb : Builtin.Int.intBits i ≤ i.natAbs.log2 + 1 := by
        unfold Builtin.Int.intBits
        split <;> omega
      have h3 : Builtin.Int.intBits i * j.toNat ≤ 100000000 := Nat.le_trans (Nat.mul_le_mul_right _ hb) h2
      have h4 := Int.ofNat_le.mpr h3
      rw [Int.natCast_mul, Int.toNat_of_nonneg hc.1] at h4
      omega
    · exact q.elim
  · exact q.elim
theorem powD_noX (x y : D) (M : Mem) : NoX (powD x y M) := fun e M' => by
  unfold powD
  split
  · split <;> exact fun z => by cases z
  · exact fun z => by cases z
def negD : D → Mem → RE := fun x M => match x with
  | .p (.int i) => .ok (.p (.int (-i))) M
  | _ => .bad
theorem un_negD : UnR X (unaryOp .USub) (rD1 Z negD) := by
  intro pins s σ H x v Q I rx ⟨ρ, M, d1, r, p1, q⟩
  unfold negD at q
  split at q
  · have := rep_int p1
    subst_vars
    exact un_neg pins s σ H _ v Q I rx ⟨_, rfl, out_int r q⟩
  · exact q.elim
theorem negD_noX (x : D) (M : Mem) : NoX (negD x M) := fun e M' => by
  unfold negD
  split <;> exact fun z => by cases z

end
end FW
/-! FwD: comparisons on data. -/
namespace FW
open PySem PySem.Spec PyProof.Rows L2

def eqNs : List Nat → List Nat → Bool
  | [], [] => true
  | a :: as, b :: bs => Nat.beq a b && eqNs as bs
  | _, _ => false
theorem eqNs_eq : ∀ (a b : List Nat), eqNs a b = (a == b)
  | [], [] => rfl
  | [], _ :: _ => rfl
  | _ :: _, [] => rfl
  | a :: as, b :: bs => by
    show (Nat.beq a b && eqNs as bs) = _
    rw [eqNs_eq as bs, List.cons_beq_cons]
    have : Nat.beq a b = (a == b) := by
      rw [Bool.eq_iff_iff, Nat.beq_eq, beq_iff_eq]
    rw [this]
def eqI : Int → Int → Bool
  | .ofNat a, .ofNat b => Nat.beq a b
  | .negSucc a, .negSucc b => Nat.beq a b
  | _, _ => false
theorem eqI_eq : ∀ (a b : Int), eqI a b = (a == b)
  | .ofNat a, .ofNat b => by
    rw [Bool.eq_iff_iff]
    show Nat.beq a b = true ↔ _
    rw [Nat.beq_eq, beq_iff_eq]
    exact ⟨fun h => by rw [h], fun h => by injection h⟩
  | .negSucc a, .negSucc b => by
    rw [Bool.eq_iff_iff]
    show Nat.beq a b = true ↔ _
    rw [Nat.beq_eq, beq_iff_eq]
    exact ⟨fun h => by rw [h], fun h => by injection h⟩
  | .ofNat a, .negSucc b => by simp [eqI]
  | .negSucc a, .ofNat b => by simp [eqI]
mutual
def toPy : P → PyData
  | .non => .none
  | .bl b => .bool b
  | .int i => .int i
  | .str s => .str ⟨s.toArray⟩
  | .tup ds => .tuple (toPyL ds)
  | .lst ds => .list (toPyL ds)
  | .dic ks vs => .dict ((toPyL ks).zip (toPyL vs))
  | _ => .none
def toPyL : List P → List PyData
  | [] => []
  | d :: ds => toPy d :: toPyL ds
end
mutual
/-- plain data, not too deep -/
def okN : Nat → P → Bool
  | _, .non => true
  | _, .bl _ => true
  | _, .int _ => true
  | _, .str s => s.all fun c => Nat.blt c 1114112
  | n + 1, .tup ds => okNL n ds
  | n + 1, .lst ds => okNL n ds
  | _, _ => false
def okNL : Nat → List P → Bool
  | _, [] => true
  | n, d :: ds => okN n d && okNL n ds
end

mutual
def eqP : P → P → Bool
  | .non, .non => true
  | .bl a, .bl b => a == b
  | .bl a, .int j => eqI (if a then 1 else 0) j
  | .int i, .bl b => eqI i (if b then 1 else 0)
  | .int i, .int j => eqI i j
  | .str a, .str b => eqNs a b
  | .tup a, .tup b => eqPL a b
  | .lst a, .lst b => eqPL a b
  | _, _ => false
def eqPL : List P → List P → Bool
  | [], [] => true
  | x :: xs, y :: ys => eqP x y && eqPL xs ys
  | _, _ => false
end
theorem str_beq (a b : List Nat) : ((⟨a.toArray⟩ : Str) == ⟨b.toArray⟩) = (a == b) := by
  rw [Bool.eq_iff_iff, beq_iff_eq, beq_iff_eq]
  constructor
  · intro h
    have h : a.toArray = b.toArray := congrArg Str.cps h
    simpa using h
  · intro h
    rw [h]
mutual
theorem eqP_eqv : ∀ (n m : Nat) (a b : P), okN n a = true → okN m b = true → eqP a b = PyData.eqv (toPy a) (toPy b)
  | n, m, .non, b, h1, h2 => by cases b <;> first | rfl | (cases m <;> simp [okN] at h2)
  | n, m, .bl a, b, h1, h2 => by
    cases b <;> first
      | rfl
      | (simp only [eqP, toPy, PyData.eqv, eqI_eq]; done)
      | (cases m <;> simp [okN] at h2)
  | n, m, .int a, b, h1, h2 => by
    cases b <;> first
      | rfl
      | (simp only [eqP, toPy, PyData.eqv, eqI_eq]; done)
      | (cases m <;> simp [okN] at h2)
  | n, m, .str a, b, h1, h2 => by
    cases b <;> first
      | rfl
      | (simp only [eqP, toPy, PyData.eqv, eqNs_eq, str_beq]; done)
      | (cases m <;> simp [okN] at h2)
  | n, m, .tup a, b, h1, h2 => by
    cases b with
    | tup b =>
      cases n with
      | zero => simp [okN] at h1
      | succ n =>
        cases m with
        | zero => simp [okN] at h2
        | succ m =>
          simp only [okN] at h1 h2
          simp only [eqP, toPy, PyData.eqv]
          exact eqPL_eqv n m a b h1 h2
    | _ => first
      | (simp only [eqP, toPy, PyData.eqv]; done)
      | (cases m <;> simp [okN] at h2)
  | n, m, .lst a, b, h1, h2 => by
    cases b with
    | lst b =>
      cases n with
      | zero => simp [okN] at h1
      | succ n =>
        cases m with
        | zero => simp [okN] at h2
        | succ m =>
          simp only [okN] at h1 h2
          simp only [eqP, toPy, PyData.eqv]
          exact eqPL_eqv n m a b h1 h2
    | _ => first
      | (simp only [eqP, toPy, PyData.eqv]; done)
      | (cases m <;> simp [okN] at h2)
  | n, m, .fn _, b, h1, h2 => by cases n <;> simp [okN] at h1
  | n, m, .ins _ _, b, h1, h2 => by cases n <;> simp [okN] at h1
  | n, m, .clo _, b, h1, h2 => by cases n <;> simp [okN] at h1
  | n, m, .exn _ _, b, h1, h2 => by cases n <;> simp [okN] at h1
  | n, m, .dic _ _, b, h1, h2 => by cases n <;> simp [okN] at h1
theorem eqPL_eqv : ∀ (n m : Nat) (a b : List P), okNL n a = true → okNL m b = true → eqPL a b = PyData.eqvAll (toPyL a) (toPyL b)
  | n, m, [], [], h1, h2 => by simp only [eqPL, toPyL, PyData.eqvAll]
  | n, m, [], _ :: _, h1, h2 => by simp only [eqPL, toPyL, PyData.eqvAll]
  | n, m, _ :: _, [], h1, h2 => by simp only [eqPL, toPyL, PyData.eqvAll]
  | n, m, x :: xs, y :: ys, h1, h2 => by
    simp only [okNL, Bool.and_eq_true] at h1 h2
    simp only [eqPL, toPyL, PyData.eqvAll]
    rw [eqP_eqv n m x y h1.1 h2.1, eqPL_eqv n m xs ys h1.2 h2.2]
end
mutual
theorem okN_lay : ∀ (n : Nat) (a : P), okN n a = true → PyData.canLay0 (toPy a) = true ∧ PyData.depth (toPy a) ≤ n
  | n, .non, h => ⟨rfl, Nat.zero_le _⟩
  | n, .bl a, h => ⟨rfl, Nat.zero_le _⟩
  | n, .int a, h => ⟨rfl, Nat.zero_le _⟩
  | n, .str a, h => ⟨by
    have h : (a.all fun c => Nat.blt c 1114112) = true := by cases n <;> simpa only [okN] using h
    show PyData.strOk ⟨a.toArray⟩ = true
    unfold PyData.strOk
    simp only [List.all_toArray]
    rw [List.all_eq_true] at h ⊢
    intro x hx
    have := Nat.le_of_ble_eq_true (h x hx)
    simp
    omega, Nat.zero_le _⟩
  | 0, .tup a, h => by simp [okN] at h
  | n + 1, .tup a, h => by
    simp only [okN] at h
    have := okNL_lay n a h
    simp only [toPy, PyData.canLay0, PyData.depth]
    exact ⟨this.1, by omega⟩
  | 0, .lst a, h => by simp [okN] at h
  | n + 1, .lst a, h => by
    simp only [okN] at h
    have := okNL_lay n a h
    simp only [toPy, PyData.canLay0, PyData.depth]
    exact ⟨this.1, by omega⟩
  | n, .fn _, h => by cases n <;> simp [okN] at h
  | n, .ins _ _, h => by cases n <;> simp [okN] at h
  | n, .clo _, h => by cases n <;> simp [okN] at h
  | n, .exn _ _, h => by cases n <;> simp [okN] at h
  | n, .dic _ _, h => by cases n <;> simp [okN] at h
theorem okNL_lay : ∀ (n : Nat) (a : List P), okNL n a = true → PyData.canLayAll0 (toPyL a) = true ∧ PyData.depthAll (toPyL a) ≤ n
  | n, [], h => ⟨rfl, Nat.zero_le _⟩
  | n, x :: xs, h => by
    simp only [okNL, Bool.and_eq_true] at h
    have h1 := okN_lay n x h.1
    have h2 := okNL_lay n xs h.2
    simp only [toPyL, PyData.canLayAll0, PyData.depthAll, Bool.and_eq_true]
    exact ⟨⟨h1.1, h2.1⟩, by omega⟩
end
theorem okN_shaped {a : P} (h : okN 64 a = true) : SeqAt.shaped (toPy a) = true := by
  have := okN_lay 64 a h
  unfold SeqAt.shaped
  rw [this.1, decide_eq_true this.2]
  rfl
section
variable {Z : Am} {rt : Rt} {W : WX} {X : Cx} {ρ ρ0 ρ' : Rho} {M : Mem} {H H0 H' : Hp} {δ : Slots} {σ : L2.St} {Q Q' : VK}
mutual
theorem rep_dp : ∀ (n : Nat) (a : P) (v : V), okN n a = true → Rep Z H a v → Dp Z.K H v (toPy a)
  | n, .non, v, h, r => by
    unfold Rep at r
    subst r
    exact .non
  | n, .bl a, v, h, r => by
    unfold Rep at r
    subst r
    exact .bl a
  | n, .int a, v, h, r => by
    unfold Rep at r
    subst r
    exact .int a
  | n, .str a, v, h, r => by
    unfold Rep at r
    subst r
    exact .str _
  | 0, .tup a, v, h, r => by simp [okN] at h
  | n + 1, .tup a, v, h, r => by
    simp only [okN] at h
    unfold Rep at r
    obtain ⟨l, xs, e, hs, hl⟩ := r
    subst e
    exact .tup hs (repL_dp n a xs h hl)
  | 0, .lst a, v, h, r => by simp [okN] at h
  | n + 1, .lst a, v, h, r => by
    simp only [okN] at h
    unfold Rep at r
    obtain ⟨l, xs, e, hs, hl⟩ := r
    subst e
    exact .lst hs.seq (repL_dp n a xs h hl)
  | n, .fn _, v, h, r => by cases n <;> simp [okN] at h
  | n, .ins _ _, v, h, r => by cases n <;> simp [okN] at h
  | n, .clo _, v, h, r => by cases n <;> simp [okN] at h
  | n, .exn _ _, v, h, r => by cases n <;> simp [okN] at h
  | n, .dic _ _, v, h, r => by cases n <;> simp [okN] at h
theorem repL_dp : ∀ (n : Nat) (a : List P) (vs : List V), okNL n a = true → RepL Z H a vs → DpAll Z.K H vs (toPyL a)
  | n, [], vs, h, r => by
    rw [r.unn]
    exact .nil
  | n, x :: xs, vs, h, r => by
    simp only [okNL, Bool.and_eq_true] at h
    obtain ⟨y, ys, e, h1, h2⟩ := r.unc
    subst e
    exact .cons (rep_dp n x y h.1 h1) (repL_dp n xs ys h.2 h2)
end
/-- the value as pure data -/
def pureD (d : D) (M : Mem) : Option P := match d with
  | .p x => some x
  | .loc n => (match M.at_ n with
    | some ds => some (.lst ds)
    | none => none)
  | _ => none
theorem pureD_dp {d : D} {v : V} {a : P} (r : Rl Z ρ M H) (p : RepD Z ρ H d v) (h : pureD d M = some a) (ok : okN 64 a = true) : Dp Z.K H v (toPy a) := by
  unfold pureD at h
  split at h
  · cases h
    exact rep_dp 64 _ v ok p
  · split at h
    · rename_i ds hd
      cases h
      obtain ⟨l, e, hl⟩ := p
      obtain ⟨es, xs, h1, h2, h3⟩ := r.num _ l hl
      rw [hd] at h1
      cases h1
      subst e
      simp only [okN] at ok
      exact .lst (.of h2) (repL_dp 63 _ xs ok h3)
    · cases h
  · cases h
def eqD (neg : Bool) : O2 := fun x y M => match x, y with
  | .p (.str a), .p (.str b) => .ok (.p (.bl (if neg then !eqNs a b else eqNs a b))) M
  | x, y => match pureD x M, pureD y M with
    | some a, some b => if okN 64 a && okN 64 b then .ok (.p (.bl (if neg then !eqP a b else eqP a b))) M else .bad
    | _, _ => .bad
theorem eqD_noX (g : Bool) (x y : D) (M : Mem) : NoX (eqD g x y M) := fun e M' => by
  unfold eqD
  split
  · exact fun z => by cases z
  · split
    · split <;> exact fun z => by cases z
    · exact fun z => by cases z
theorem dec_str (a b : List Nat) : decide (V.str ⟨a.toArray⟩ = V.str ⟨b.toArray⟩) = eqNs a b := by
  rw [eqNs_eq, Bool.eq_iff_iff, decide_eq_true_iff, beq_iff_eq]
  constructor
  · intro h
    injection h with h
    have h : a.toArray = b.toArray := congrArg Str.cps h
    simpa using h
  · intro h
    rw [h]
theorem op_eqDD (hK : X.K = Z.K) (hu : X.A.units + 65 < cLine) : OpR X (compareOp .Eq) (rD Z (eqD false)) := by
  intro pins s σ H x y v u Q I rx ry ⟨ρ, M, d1, d2, r, p1, p2, q⟩
  unfold eqD at q
  split at q
  · have e1 := rep_str p1
    have e2 := rep_str p2
    subst e1 e2
    exact op_eq pins s σ H _ _ v u Q I rx ry ⟨rfl, by rw [dec_str]; exact out_bl r q⟩
  · split at q
    · rename_i a b ha hb
      split at q
      · rename_i hc
        have hc := Bool.and_eq_true_iff.mp hc
        refine op_eqD (by omega) pins s σ H _ _ v u Q I rx ry ⟨_, _, by rw [hK]; exact pureD_dp r p1 ha hc.1, by rw [hK]; exact pureD_dp r p2 hb hc.2, okN_shaped hc.1, okN_shaped hc.2, ?_⟩
        rw [← eqP_eqv 64 64 a b hc.1 hc.2]
        exact out_bl r q
      · exact q.elim
    · exact q.elim
theorem op_neDD (hK : X.K = Z.K) (hu : X.A.units + 65 < cLine) : OpR X (compareOp .NotEq) (rD Z (eqD true)) := by
  intro pins s σ H x y v u Q I rx ry ⟨ρ, M, d1, d2, r, p1, p2, q⟩
  unfold eqD at q
  split at q
  · have e1 := rep_str p1
    have e2 := rep_str p2
    subst e1 e2
    exact op_ne pins s σ H _ _ v u Q I rx ry ⟨rfl, by rw [dec_str]; exact out_bl r q⟩
  · split at q
    · rename_i a b ha hb
      split at q
      · rename_i hc
        have hc := Bool.and_eq_true_iff.mp hc
        refine op_neD (by omega) pins s σ H _ _ v u Q I rx ry ⟨_, _, by rw [hK]; exact pureD_dp r p1 ha hc.1, by rw [hK]; exact pureD_dp r p2 hb hc.2, okN_shaped hc.1, okN_shaped hc.2, ?_⟩
        rw [← eqP_eqv 64 64 a b hc.1 hc.2]
        exact out_bl r q
      · exact q.elim
    · exact q.elim
end
end FW
/-! FwE: order, in, is; items, slices; displays; and, or, not, if. -/
namespace FW
open PySem PySem.Spec PyProof.Rows L2

def ltNs : List Nat → List Nat → Bool
  | [], [] => false
  | [], _ :: _ => true
  | _ :: _, [] => false
  | a :: as, b :: bs => if Nat.beq a b then ltNs as bs else Nat.blt a b
theorem ltNs_eq : ∀ (a b : List Nat), ltNs a b = decide (a < b)
  | [], [] => by simp [ltNs]
  | [], _ :: _ => by simp [ltNs]
  | _ :: _, [] => by simp [ltNs]
  | a :: as, b :: bs => by
    unfold ltNs
    rw [ltNs_eq as bs, Bool.eq_iff_iff]
    rw [decide_eq_true_iff, List.cons_lt_cons_iff]
    split
    · rename_i h
      have h := Nat.eq_of_beq_eq_true h
      subst h
      simp
    · rename_i h
      have h : a ≠ b := fun z => h (by rw [z]; exact Nat.beq_refl b)
      constructor
      · intro q
        exact .inl (Nat.le_of_ble_eq_true q)
      · intro q
        rcases q with q | q
        · exact Nat.ble_eq_true_of_le q
        · exact absurd q.1 h
/-- k: 0 <, 1 <=, 2 >, 3 >= -/
def ordI (k : Nat) (i j : Int) : Bool := match k with
  | 0 => decide (i < j)
  | 1 => decide (i ≤ j)
  | 2 => decide (j < i)
  | _ => decide (j ≤ i)
def ordS (k : Nat) (a b : List Nat) : Bool := match k with
  | 0 => ltNs a b
  | 1 => !ltNs b a
  | 2 => ltNs b a
  | _ => !ltNs a b
def ordD (k : Nat) : O2 := fun x y M => match x, y with
  | .p (.int i), .p (.int j) => .ok (.p (.bl (ordI k i j))) M
  | .p (.str a), .p (.str b) => .ok (.p (.bl (ordS k a b))) M
  | _, _ => .bad
theorem ordD_noX (k : Nat) (x y : D) (M : Mem) : NoX (ordD k x y M) := fun e M' => by
  unfold ordD
  split <;> exact fun z => by cases z
def isND (neg : Bool) : O2 := fun x y M => match x, y with
  | .p .non, .p .non => .ok (.p (.bl (!neg))) M
  | _, .p .non => .ok (.p (.bl neg)) M
  | _, _ => .bad
theorem isND_noX (k : Bool) (x y : D) (M : Mem) : NoX (isND k x y M) := fun e M' => by
  unfold isND
  split <;> exact fun z => by cases z
def anyP (x : P) : List P → Bool
  | [] => false
  | y :: ys => eqP y x || anyP x ys
/-- a in b: a sign in a text; an item -/
def inP (a b : P) : Option Bool := match b with
  | .str s => (match a with
    | .str [c] => some (s.any (Nat.beq c))
    | _ => none)
  | .tup ds => if okN 64 a && okNL 63 ds then some (anyP a ds) else none
  | .lst ds => if okN 64 a && okNL 63 ds then some (anyP a ds) else none
  | _ => none
def inD (neg : Bool) : O2 := fun x y M => match pureD x M, pureD y M with
  | some a, some b => (match inP a b with
    | some k => .ok (.p (.bl (if neg then !k else k))) M
    | none => .bad)
  | _, _ => .bad
theorem inD_noX (g : Bool) (x y : D) (M : Mem) : NoX (inD g x y M) := fun e M' => by
  unfold inD
  split
  · split <;> exact fun z => by cases z
  · exact fun z => by cases z
section
variable {Z : Am} {rt : Rt} {W : WX} {X : Cx} {ρ ρ0 ρ' : Rho} {M : Mem} {H H0 H' : Hp} {δ : Slots} {σ : L2.St} {Q Q' : VK} {QT : Bool → Hp → Prop}
theorem op_ltD : OpR X (compareOp .Lt) (rD Z (ordD 0)) := by
  intro pins s σ H x y v u Q I rx ry ⟨ρ, M, d1, d2, r, p1, p2, q⟩
  unfold ordD at q
  split at q
  · have := rep_int p1
    have := rep_int p2
    subst_vars
    exact op_lt pins s σ H _ _ v u Q I rx ry ⟨_, _, rfl, rfl, out_bl r q⟩
  · have := rep_str p1
    have := rep_str p2
    subst_vars
    refine op_lt_str pins s σ H _ _ v u Q I rx ry ⟨_, _, rfl, rfl, ?_⟩
    have := out_bl r q
    simp only [ordS, ltNs_eq] at this
    exact this
  · exact q.elim
theorem op_leD : OpR X (compareOp .LtE) (rD Z (ordD 1)) := by
  intro pins s σ H x y v u Q I rx ry ⟨ρ, M, d1, d2, r, p1, p2, q⟩
  unfold ordD at q
  split at q
  · have := rep_int p1
    have := rep_int p2
    subst_vars
    exact op_le pins s σ H _ _ v u Q I rx ry ⟨_, _, rfl, rfl, out_bl r q⟩
  · have := rep_str p1
    have := rep_str p2
    subst_vars
    refine op_le_str pins s σ H _ _ v u Q I rx ry ⟨_, _, rfl, rfl, ?_⟩
    have := out_bl r q
    simp only [ordS, ltNs_eq] at this
    exact this
  · exact q.elim
theorem op_gtD : OpR X (compareOp .Gt) (rD Z (ordD 2)) := by
  intro pins s σ H x y v u Q I rx ry ⟨ρ, M, d1, d2, r, p1, p2, q⟩
  unfold ordD at q
  split at q
  · have := rep_int p1
    have := rep_int p2
    subst_vars
    exact op_gt pins s σ H _ _ v u Q I rx ry ⟨_, _, rfl, rfl, out_bl r q⟩
  · have := rep_str p1
    have := rep_str p2
    subst_vars
    refine op_gt_str pins s σ H _ _ v u Q I rx ry ⟨_, _, rfl, rfl, ?_⟩
    have := out_bl r q
    simp only [ordS, ltNs_eq] at this
    exact this
  · exact q.elim
theorem op_geD : OpR X (compareOp .GtE) (rD Z (ordD 3)) := by
  intro pins s σ H x y v u Q I rx ry ⟨ρ, M, d1, d2, r, p1, p2, q⟩
  unfold ordD at q
  split at q
  · have := rep_int p1
    have := rep_int p2
    subst_vars
    exact op_ge pins s σ H _ _ v u Q I rx ry ⟨_, _, rfl, rfl, out_bl r q⟩
  · have := rep_str p1
    have := rep_str p2
    subst_vars
    refine op_ge_str pins s σ H _ _ v u Q I rx ry ⟨_, _, rfl, rfl, ?_⟩
    have := out_bl r q
    simp only [ordS, ltNs_eq] at this
    exact this
  · exact q.elim
theorem repD_non {d : D} {v : V} (p : RepD Z ρ H d v) : decide (v = .non) = (match d with | .p .non => true | _ => false) := by
  cases d with
  | loc n =>
    obtain ⟨a, e, _⟩ := p
    subst e
    rfl
  | clo n =>
    obtain ⟨a, e, _⟩ := p
    subst e
    rfl
  | clos n =>
    obtain ⟨a, xs, e, _⟩ := p
    subst e
    rfl
  | p x =>
    have p : Rep Z H x v := p
    cases x <;> unfold Rep at p
    case non => subst p; rfl
    case bl => subst p; rfl
    case int => subst p; rfl
    case str => subst p; rfl
    case tup => obtain ⟨a, xs, e, _⟩ := p; subst e; rfl
    case lst => obtain ⟨a, xs, e, _⟩ := p; subst e; rfl
    case fn => obtain ⟨a, e, _⟩ := p; subst e; rfl
    case clo => obtain ⟨a, e, _⟩ := p; subst e; rfl
    case ins => obtain ⟨a, C, dx, xs, e, _⟩ := p; subst e; rfl
    case exn => obtain ⟨a, C, dx, xs, e, _⟩ := p; subst e; rfl
    case dic => obtain ⟨a, o, kv, e, _⟩ := p; subst e; rfl
theorem op_isND : OpR X (compareOp .Is) (rD Z (isND false)) := by
  intro pins s σ H x y v u Q I rx ry ⟨ρ, M, d1, d2, r, p1, p2, q⟩
  unfold isND at q
  split at q
  · have e1 := rep_non p1
    have e2 := rep_non p2
    subst e1
    subst e2
    refine op_isN pins s σ H _ _ v u Q I rx ry ⟨rfl, ?_⟩
    have := out_bl r q
    rw [decide_eq_true rfl]
    exact this
  · rename_i d hd
    have e2 := rep_non p2
    subst e2
    refine op_isN pins s σ H _ _ v u Q I rx ry ⟨rfl, ?_⟩
    rw [repD_non p1]
    have := out_bl r q
    split
    · first | exact (hd rfl).elim | exact (hd _).elim | exact absurd rfl hd
    · exact this
  · exact q.elim
theorem op_notND : OpR X (compareOp .IsNot) (rD Z (isND true)) := by
  intro pins s σ H x y v u Q I rx ry ⟨ρ, M, d1, d2, r, p1, p2, q⟩
  unfold isND at q
  split at q
  · have e1 := rep_non p1
    have e2 := rep_non p2
    subst e1
    subst e2
    refine op_notN pins s σ H _ _ v u Q I rx ry ⟨rfl, ?_⟩
    have := out_bl r q
    rw [decide_eq_true rfl]
    exact this
  · rename_i d hd
    have e2 := rep_non p2
    subst e2
    refine op_notN pins s σ H _ _ v u Q I rx ry ⟨rfl, ?_⟩
    rw [repD_non p1]
    have := out_bl r q
    split
    · first | exact (hd rfl).elim | exact (hd _).elim | exact absurd rfl hd
    · exact this
  · exact q.elim
theorem anyP_eqv (a : P) (ha : okN 64 a = true) : ∀ (ds : List P), okNL 63 ds = true → anyP a ds = (toPyL ds).any fun z => PyData.eqv z (toPy a)
  | [], _ => rfl
  | d :: ds, h => by
    simp only [okNL, Bool.and_eq_true] at h
    simp only [anyP, toPyL, List.any_cons]
    rw [eqP_eqv 63 64 d a h.1 ha, anyP_eqv a ha ds h.2]
theorem okNL_shaped {ds : List P} (h : okNL 63 ds = true) : SeqAt.shaped (.list (toPyL ds)) = true ∧ PyData.canLayAll0 (toPyL ds) = true ∧ PyData.depthAll (toPyL ds) ≤ 63 := by
  have := okNL_lay 63 ds h
  refine ⟨?_, this.1, this.2⟩
  unfold SeqAt.shaped
  rw [show (PyData.list (toPyL ds)).canLay0 = true from this.1, decide_eq_true (by show PyData.depthAll (toPyL ds) + 1 ≤ 64; omega)]
  rfl
theorem mem_beq (c : Nat) (s : List Nat) : s.any (Nat.beq c) = decide (c ∈ s) := by
  rw [Bool.eq_iff_iff, List.any_eq_true, decide_eq_true_iff]
  constructor
  · rintro ⟨x, h1, h2⟩
    rw [Nat.eq_of_beq_eq_true h2]
    exact h1
  · intro h
    exact ⟨c, h, Nat.beq_refl c⟩
theorem pure_str {d : D} {v : V} {s : List Nat} (p : RepD Z ρ H d v) (h : pureD d M = some (.str s)) : v = .str ⟨s.toArray⟩ := by
  unfold pureD at h
  split at h
  · cases h
    exact rep_str p
  · split at h <;> cases h
  · cases h
theorem op_inDD (hK : X.K = Z.K) (hu : X.A.units + 130 < cLine) : OpR X (compareOp .In) (rD Z (inD false)) := by
  intro pins s σ H x y v u Q I rx ry ⟨ρ, M, d1, d2, r, p1, p2, q⟩
  unfold inD at q
  split at q
  · rename_i a b h1 h2
    split at q
    case h_2 => exact q.elim
    rename_i k hk
    cases b with
    | str t =>
      simp only [inP] at hk
      split at hk
      · rename_i c
        cases hk
        have := pure_str p1 h1
        have := pure_str p2 h2
        subst_vars
        refine op_in_sign pins s σ H _ _ v u Q I rx ry ⟨c, _, rfl, rfl, ?_⟩
        have := out_bl r q
        simp only [mem_beq] at this
        exact this
      · cases hk
    | tup ds =>
      simp only [inP] at hk
      split at hk
      · rename_i hc
        cases hk
        have hc := Bool.and_eq_true_iff.mp hc
        have D1 := pureD_dp r p1 h1 hc.1
        have ok2 : okN 64 (.tup ds) = true := by simp only [okN]; exact hc.2
        have D2 := pureD_dp r p2 h2 ok2
        rw [← hK] at D1 D2
        obtain ⟨as, r1⟩ := Dp.reads I _ x v D1 rx
        simp only [toPy] at D2
        obtain ⟨bs, r2⟩ := Dp.reads I _ y u D2 ry
        have hs := okNL_shaped hc.2
        have hl := okN_lay 64 a hc.1
        refine SeqAt.in_tuple_reads r2 r1 hs.2.1 hl.1 (by omega) ⟨.bl _, H, I, rfl, ?_⟩
        have := out_bl r q
        rw [if_neg Bool.false_ne_true, anyP_eqv a hc.1 ds hc.2] at this
        exact this
      · cases hk
    | lst ds =>
      simp only [inP] at hk
      split at hk
      · rename_i hc
        cases hk
        have hc := Bool.and_eq_true_iff.mp hc
        have D1 := pureD_dp r p1 h1 hc.1
        have ok2 : okN 64 (.lst ds) = true := by simp only [okN]; exact hc.2
        have D2 := pureD_dp r p2 h2 ok2
        rw [← hK] at D1 D2
        obtain ⟨as, r1⟩ := Dp.reads I _ x v D1 rx
        simp only [toPy] at D2
        obtain ⟨bs, r2⟩ := Dp.reads I _ y u D2 ry
        have hs := okNL_shaped hc.2
        have hl := okN_lay 64 a hc.1
        refine SeqAt.in_list_reads r2 r1 hs.2.1 hl.1 (by omega) ⟨.bl _, H, I, rfl, ?_⟩
        have := out_bl r q
        rw [if_neg Bool.false_ne_true, anyP_eqv a hc.1 ds hc.2] at this
        exact this
      · cases hk
    | _ => simp [inP] at hk
  · exact q.elim
theorem op_notInDD (hK : X.K = Z.K) (hu : X.A.units + 130 < cLine) : OpR X (compareOp .NotIn) (rD Z (inD true)) := by
  intro pins s σ H x y v u Q I rx ry ⟨ρ, M, d1, d2, r, p1, p2, q⟩
  unfold inD at q
  split at q
  · rename_i a b h1 h2
    split at q
    case h_2 => exact q.elim
    rename_i k hk
    cases b with
    | str t =>
      simp only [inP] at hk
      split at hk
      · rename_i c
        cases hk
        have := pure_str p1 h1
        have := pure_str p2 h2
        subst_vars
        refine op_notIn_sign pins s σ H _ _ v u Q I rx ry ⟨c, _, rfl, rfl, ?_⟩
        have := out_bl r q
        simp only [mem_beq] at this
        exact this
      · cases hk
    | tup ds =>
      simp only [inP] at hk
      split at hk
      · rename_i hc
        cases hk
        have hc := Bool.and_eq_true_iff.mp hc
        have D1 := pureD_dp r p1 h1 hc.1
        have ok2 : okN 64 (.tup ds) = true := by simp only [okN]; exact hc.2
        have D2 := pureD_dp r p2 h2 ok2
        rw [← hK] at D1 D2
        obtain ⟨as, r1⟩ := Dp.reads I _ x v D1 rx
        simp only [toPy] at D2
        obtain ⟨bs, r2⟩ := Dp.reads I _ y u D2 ry
        have hs := okNL_shaped hc.2
        have hl := okN_lay 64 a hc.1
        refine SeqAt.notIn_tuple_reads r2 r1 hs.2.1 hl.1 (by omega) ⟨.bl _, H, I, rfl, ?_⟩
        have := out_bl r q
        rw [if_pos rfl, anyP_eqv a hc.1 ds hc.2] at this
        exact this
      · cases hk
    | lst ds =>
      simp only [inP] at hk
      split at hk
      · rename_i hc
        cases hk
        have hc := Bool.and_eq_true_iff.mp hc
        have D1 := pureD_dp r p1 h1 hc.1
        have ok2 : okN 64 (.lst ds) = true := by simp only [okN]; exact hc.2
        have D2 := pureD_dp r p2 h2 ok2
        rw [← hK] at D1 D2
        obtain ⟨as, r1⟩ := Dp.reads I _ x v D1 rx
        simp only [toPy] at D2
        obtain ⟨bs, r2⟩ := Dp.reads I _ y u D2 ry
        have hs := okNL_shaped hc.2
        have hl := okN_lay 64 a hc.1
        refine SeqAt.notIn_list_reads r2 r1 hs.2.1 hl.1 (by omega) ⟨.bl _, H, I, rfl, ?_⟩
        have := out_bl r q
        rw [if_pos rfl, anyP_eqv a hc.1 ds hc.2] at this
        exact this
      · cases hk
    | _ => simp [inP] at hk
  · exact q.elim
end
end FW
/-! FwF: items, slices; argument lists, displays; chains, and, or, not, if. -/
namespace FW
open PySem PySem.Spec PyProof.Rows L2

def atL {α : Type} (ds : List α) (i : Int) : Option α := match i with
  | .ofNat n => ds[n]?
  | .negSucc n => if Nat.blt n ds.length then ds[ds.length - 1 - n]? else none
theorem atL_eq {α : Type} (ds : List α) (i : Int) : atL ds i = atI ds i := by
  unfold atI ixN
  cases i with
  | ofNat n =>
    show ds[n]? = _
    rw [if_pos (show (0 : Int) ≤ Int.ofNat n from Int.natCast_nonneg n)]
    by_cases h : n < ds.length
    · rw [if_pos (by show (n : Int) < _; omega)]
      rfl
    · rw [if_neg (by show ¬ (n : Int) < _; omega), List.getElem?_eq_none (by omega)]
      rfl
  | negSucc n =>
    show (if Nat.blt n ds.length = true then ds[ds.length - 1 - n]? else none) = _
    rw [if_neg (by omega : ¬ (0 : Int) ≤ Int.negSucc n)]
    by_cases h : n < ds.length
    · rw [if_pos (show Nat.blt n ds.length = true from Nat.ble_eq_true_of_le h), if_pos (by omega)]
      show _ = ds[(Int.negSucc n + (ds.length : Int)).toNat]?
      congr 1
      omega
    · rw [if_neg (show ¬ Nat.blt n ds.length = true from fun z => h (Nat.le_of_ble_eq_true z)), if_neg (by omega)]
      rfl
theorem atI_rep {α β : Type} {F : α → β → Prop} {ds : List α} {xs : List β} {i : Int} {d : α} (hl : ds.length = xs.length) (hg : ∀ (j : Nat) (d : α), ds[j]? = some d → ∃ x, xs[j]? = some x ∧ F d x) (h : atI ds i = some d) : ∃ x, atI xs i = some x ∧ F d x := by
  unfold atI at h ⊢
  rw [← hl]
  cases hx : ixN ds.length i with
  | none => rw [hx] at h; cases h
  | some j =>
    rw [hx] at h
    obtain ⟨x, h1, h2⟩ := hg j d h
    exact ⟨x, h1, h2⟩
def idxD : O2 := fun x y M => match y with
  | .p (.int i) => (match x with
    | .p (.tup ds) => (match atL ds i with
      | some d => .ok (.p d) M
      | none => .bad)
    | .p (.str s) => if small s.length then (match atL s i with
      | some c => .ok (.p (.str [c])) M
      | none => .bad) else .bad
    | x => match lstOf x M with
      | some ds => (match atL ds i with
        | some d => .ok (.p d) M
        | none => .bad)
      | none => .bad)
  | _ => .bad
theorem idxD_noX (x y : D) (M : Mem) : NoX (idxD x y M) := fun e M' => by
  unfold idxD
  repeat (first | exact (fun z => by cases z) | split)
def cutP {α : Type} (xs : List α) (lo hi : Option Int) : List α := (xs.drop (HT.sIx xs.length 0 lo)).take (HT.sIx xs.length xs.length hi - HT.sIx xs.length 0 lo)
def slD (mk : Bool) (x : D) (lo hi : Option Int) (M : Mem) : RE := match x with
  | .p (.tup ds) => .ok (.p (.tup (cutP ds lo hi))) M
  | x => match lstOf x M with
    | some ds => finL mk (cutP ds lo hi) M
    | none => .bad
section
variable {Z : Am} {rt : Rt} {W : WX} {X : Cx} {ρ ρ0 ρ' : Rho} {M : Mem} {H H0 H' : Hp} {δ : Slots} {σ : L2.St} {Q Q' : VK} {QT : Bool → Hp → Prop} {QA : List V → Hp → Prop}
theorem rep_out {d : P} {v : V} {EX} (r : Rl Z ρ M H) (p : Rep Z H d v) (q : PostE (.ok (.p d) M) (stdO Z ρ H Q) EX) : Q v H := q ρ v H Ext.refl r p
theorem ix_D (hK : X.K = Z.K) : IxR X (rD Z idxD) := by
  intro value slice pins s σ H x y v u Q I rx ry ⟨ρ, M, d1, d2, r, p1, p2, q⟩ hsub
  unfold idxD at q
  split at q
  · rename_i i
    have e2 := rep_int p2
    subst e2
    split at q
    · rename_i ds
      obtain ⟨a, xs, e1, h1, l1⟩ := rep_tup p1
      subst e1
      split at q
      · rename_i d hd
        rw [atL_eq] at hd
        obtain ⟨w, hw, hr⟩ := atI_rep l1.length (fun j d h => l1.get h) hd
        exact ix_tup value slice pins s σ H _ _ v u Q I rx ry ⟨a, xs, i, w, rfl, rfl, by rw [hK]; exact h1, hw, rep_out r hr q⟩ hsub
      · exact q.elim
    · rename_i z
      have e1 := rep_str p1
      subst e1
      split at q
      · rename_i hz
        split at q
        · rename_i c hc
          rw [atL_eq] at hc
          refine ix_str value slice pins s σ H _ _ v u Q I rx ry ⟨⟨z.toArray⟩, i, c, rfl, rfl, ?_, ?_, ?_⟩ hsub
          · have := small_le hz
            rw [sizeLine_eq]
            simp [Str.length]
            omega
          · simpa using hc
          · have := out_str r q
            simpa using this
        · exact q.elim
      · exact q.elim
    · split at q
      · rename_i ds hds
        obtain ⟨a, xs, e1, h1, l1⟩ := lstOf_ok r p1 hds
        subst e1
        split at q
        · rename_i d hd
          rw [atL_eq] at hd
          obtain ⟨w, hw, hr⟩ := atI_rep l1.length (fun j d h => l1.get h) hd
          exact ix_list value slice pins s σ H _ _ v u Q I rx ry ⟨a, xs, i, w, rfl, rfl, by rw [hK]; exact h1, hw, rep_out r hr q⟩ hsub
        · exact q.elim
      · exact q.elim
  · exact q.elim
def notSl : Expr → Bool
  | .Slice _ _ _ _ => false
  | _ => true
theorem plainIx_of {b : Expr} (h : notSl b = true) : PlainIx b := fun o i => by
  cases b <;> first | rfl | cases h
theorem pv_idx {a b : Expr} {ma mb : SE} {pos : Pos} (hK : X.K = Z.K) (ha : PE X a (tE Z rt W ma)) (hb : PE X b (tE Z rt W mb)) (hs : notSl b = true) : PE X (.Subscript a b pos) (tE Z rt W (binE idxD ma mb)) :=
  PE.imp (pe_ix (ix_D hK) ha hb (plainIx_of hs)) fun _ _ _ h => tOp_of idxD_noX (fun _ _ _ _ h => h) h

/-! ### slices -/
theorem slR_lk {r : V → Option Int → Option Int → Hp → VK → Prop} (h : SlR X r) : SlR X (fun x lo hi H Q => r x lo hi H (LK Q)) := fun pins s σ H x v vl vu lo hi sl Q I rx hs pl pu q => by
  obtain ⟨T, id, h1, h2, h3⟩ := h pins s σ H x v vl vu lo hi sl (LK Q) I rx hs pl pu q
  exact ⟨T, id, h1, h2, thn h3 fun _ _ z => EP.lk z⟩
def rSlD (Z : Am) (mk : Bool) : V → Option Int → Option Int → Hp → VK → Prop := fun x lo hi H Q => ∃ ρ M d1, Rl Z ρ M H ∧ RepD Z ρ H d1 x ∧ PostE (slD mk d1 lo hi M) (stdO Z ρ H Q) (fun _ _ => False)
theorem cutP_rep {ds : List P} {xs : List V} {lo hi : Option Int} (h : RepL Z H ds xs) : RepL Z H (cutP ds lo hi) (cutV xs lo hi) := by
  unfold cutP cutV
  rw [h.length]
  exact (h.drop _).take _
theorem sl_D (hK : X.K = Z.K) (mk : Bool) : SlR X (rSlD Z mk) := by
  intro pins s σ H x v vl vu lo hi sl Q I rx hs pl pu ⟨ρ, M, d1, r, p1, q⟩
  unfold slD at q
  split at q
  · rename_i ds
    obtain ⟨a, xs, e1, h1, l1⟩ := rep_tup p1
    subst e1
    refine sl_tupA pins s σ H _ v vl vu lo hi sl Q I rx hs pl pu ⟨a, xs, rfl, by rw [hK]; exact h1, fun ⟨w1, w2⟩ => ?_, fun _ p hp => tup_ok r hp (cutP_rep l1) q⟩
    have e : cutP ds lo hi = ds := by
      unfold cutP
      rw [l1.length, w1, w2, List.drop_zero, Nat.sub_zero, ← l1.length]
      exact List.take_length
    rw [e] at q
    exact q ρ _ _ Ext.refl r p1
  · split at q
    · rename_i ds hds
      obtain ⟨a, xs, e1, h1, l1⟩ := lstOf_ok r p1 hds
      subst e1
      exact slR_lk sl_list pins s σ H _ v vl vu lo hi sl Q I rx hs pl pu ⟨a, xs, rfl, by rw [hK]; exact h1, fun p hp => finL_ok r hp (cutP_rep l1) q⟩
    · exact q.elim
theorem slD_noX (mk : Bool) (x : D) (lo hi : Option Int) (M : Mem) : NoX (slD mk x lo hi M) := fun e M' => by
  unfold slD
  split
  · exact fun z => by cases z
  · split
    · exact finL_noX _ _
    · exact fun z => by cases z
def intPart (d : D) : Option Int := match d with
  | .p (.int i) => some i
  | _ => none
/-- a slice's parts: none, or an int -/
def slcE (mk : Bool) (a : SE) (lo hi : Option SE) : SE := fun rt δ M => (a rt δ M).bind fun x M1 => match lo with
  | none => (match hi with
    | none => slD mk x none none M1
    | some h => (h rt δ M1).bind fun y M2 => match intPart y with
      | some j => slD mk x none (some j) M2
      | none => .bad)
  | some l => (l rt δ M1).bind fun z M2 => match intPart z with
    | none => .bad
    | some i => (match hi with
      | none => slD mk x (some i) none M2
      | some h => (h rt δ M2).bind fun y M3 => match intPart y with
        | some j => slD mk x (some i) (some j) M3
        | none => .bad)
theorem intPart_ok {d : D} {i : Int} {v : V} (p : RepD Z ρ H d v) (h : intPart d = some i) : v = .int i := by
  unfold intPart at h
  split at h
  · cases h
    exact rep_int p
  · cases h
theorem pv_slc00 {a : Expr} {ma : SE} {mk : Bool} {pos p2 : Pos} (hK : X.K = Z.K) (ha : PE X a (tE Z rt W ma)) : PE X (.Subscript a (.Slice none none none p2) pos) (tE Z rt W (slcE mk ma none none)) :=
  PE.imp (pe_slice (sl_D hK mk) ha po_none po_none) fun σ H Q ⟨ρ, M, δ, r0, s, q⟩ => by
    refine tE.thn (useEE (ρ0 := ρ) (H0 := H) r0 s Ext.refl q) fun x H1 ⟨ρ1, M1, d1, e1, r1, p1, q1⟩ => ?_
    exact ⟨ρ1, M1, d1, r1, p1, (q1.noX (slD_noX _ _ _ _ _)).mono e1⟩
theorem pv_slc10 {a l : Expr} {ma ml : SE} {mk : Bool} {pos p2 : Pos} (hK : X.K = Z.K) (ha : PE X a (tE Z rt W ma)) (hl : PE X l (tE Z rt W ml)) : PE X (.Subscript a (.Slice (some l) none none p2) pos) (tE Z rt W (slcE mk ma (some ml) none)) :=
  PE.imp (pe_slice (sl_D hK mk) ha (po_some hl) po_none) fun σ H Q ⟨ρ, M, δ, r0, s, q⟩ => by
    refine tE.thn (useEE (ρ0 := ρ) (H0 := H) r0 s Ext.refl q) fun x H1 ⟨ρ1, M1, d1, e1, r1, p1, q1⟩ => ?_
    refine tE.thn (useEE (ρ0 := ρ) (H0 := H) r1 (s.ext e1) e1 q1) fun y H2 ⟨ρ2, M2, d2, e2, r2, p2, q2⟩ => ?_
    split at q2
    · exact q2.elim
    · rename_i i hi
      exact ⟨i, intPart_ok p2 hi, ρ2, M2, d1, r2, p1.ext e2, (q2.noX (slD_noX _ _ _ _ _)).mono (e1.trans e2)⟩
theorem pv_slc01 {a h : Expr} {ma mh : SE} {mk : Bool} {pos p2 : Pos} (hK : X.K = Z.K) (ha : PE X a (tE Z rt W ma)) (hh : PE X h (tE Z rt W mh)) : PE X (.Subscript a (.Slice none (some h) none p2) pos) (tE Z rt W (slcE mk ma none (some mh))) :=
  PE.imp (pe_slice (sl_D hK mk) ha po_none (po_some hh)) fun σ H Q ⟨ρ, M, δ, r0, s, q⟩ => by
    refine tE.thn (useEE (ρ0 := ρ) (H0 := H) r0 s Ext.refl q) fun x H1 ⟨ρ1, M1, d1, e1, r1, p1, q1⟩ => ?_
    refine tE.thn (useEE (ρ0 := ρ) (H0 := H) r1 (s.ext e1) e1 q1) fun y H2 ⟨ρ2, M2, d2, e2, r2, p2, q2⟩ => ?_
    split at q2
    · rename_i i hi
      exact ⟨i, intPart_ok p2 hi, ρ2, M2, d1, r2, p1.ext e2, (q2.noX (slD_noX _ _ _ _ _)).mono (e1.trans e2)⟩
    · exact q2.elim
theorem pv_slc11 {a l h : Expr} {ma ml mh : SE} {mk : Bool} {pos p2 : Pos} (hK : X.K = Z.K) (ha : PE X a (tE Z rt W ma)) (hl : PE X l (tE Z rt W ml)) (hh : PE X h (tE Z rt W mh)) : PE X (.Subscript a (.Slice (some l) (some h) none p2) pos) (tE Z rt W (slcE mk ma (some ml) (some mh))) :=
  PE.imp (pe_slice (sl_D hK mk) ha (po_some hl) (po_some hh)) fun σ H Q ⟨ρ, M, δ, r0, s, q⟩ => by
    refine tE.thn (useEE (ρ0 := ρ) (H0 := H) r0 s Ext.refl q) fun x H1 ⟨ρ1, M1, d1, e1, r1, p1, q1⟩ => ?_
    refine tE.thn (useEE (ρ0 := ρ) (H0 := H) r1 (s.ext e1) e1 q1) fun y H2 ⟨ρ2, M2, d2, e2, r2, p2, q2⟩ => ?_
    split at q2
    · exact q2.elim
    · rename_i i hi
      refine ⟨i, intPart_ok p2 hi, ?_⟩
      refine tE.thn (useEE (ρ0 := ρ) (H0 := H) r2 ((s.ext e1).ext e2) (e1.trans e2) q2) fun y H3 ⟨ρ3, M3, d3, e3, r3, p3, q3⟩ => ?_
      split at q3
      · rename_i j hj
        exact ⟨j, intPart_ok p3 hj, ρ3, M3, d1, r3, (p1.ext e2).ext e3, (q3.noX (slD_noX _ _ _ _ _)).mono ((e1.trans e2).trans e3)⟩
      · exact q3.elim

/-! ### argument lists, displays -/
def nilA : SA := fun _ _ M => .ok [] M
def consA (a : SE) (as : SA) : SA := fun rt δ M => (a rt δ M).bindA fun x M1 => (as rt δ M1).bindA fun xs M2 => .ok (x :: xs) M2
theorem pa_nilD : PA X [] (tA Z rt W nilA) := PA.imp pa_nil fun σ H Q ⟨ρ, M, δ, r, s, q⟩ => q ρ [] H Ext.refl r RepDs.nil
def notStar : Expr → Bool
  | .Starred _ _ => false
  | _ => true
theorem star_of {e : Expr} {es : List Expr} {env : Env} (h : notStar e = true) : starEach (e :: es) env = (false, eval e env) :: starEach es env := by
  cases e <;> first | rfl | cases h
theorem pa_consD {e : Expr} {es : List Expr} {ma : SE} {mas : SA} (hs : notStar e = true) (ha : PE X e (tE Z rt W ma)) (hr : PA X es (tA Z rt W mas)) : PA X (e :: es) (tA Z rt W (consA ma mas)) :=
  PA.imp (pa_cons ha hr (star_of hs)) fun σ H Q ⟨ρ, M, δ, r, s, q⟩ => by
    refine tE.thn (useEA (ρ0 := ρ) (H0 := H) r s Ext.refl q) fun x H1 ⟨ρ1, M1, d1, e1, r1, p1, q1⟩ => ?_
    refine tA.thn (useAA (ρ0 := ρ) (H0 := H) r1 (s.ext e1) e1 q1) fun y H2 ⟨ρ2, M2, ds, e2, r2, p2, q2⟩ => ?_
    exact q2 ρ2 _ H2 (e1.trans e2) r2 (RepDs.cons (p1.ext e2) p2)
/-- all values pure -/
def allP : List D → Option (List P)
  | [] => some []
  | .p x :: ds => (match allP ds with
    | some xs => some (x :: xs)
    | none => none)
  | .loc _ :: _ => none
  | .clo _ :: _ => none
  | .clos _ :: _ => none
theorem allP_ok : ∀ {ds : List D} {xs : List P} {vs : List V}, allP ds = some xs → RepDs Z ρ H ds vs → RepL Z H xs vs
  | [], xs, vs, h, p => by
    cases h
    have p : vs = [] := p
    rw [p]
    exact RepL.nil
  | .loc _ :: _, xs, vs, h, p => by cases h
  | .clo _ :: _, xs, vs, h, p => by cases h
  | .clos _ :: _, xs, vs, h, p => by cases h
  | .p x :: ds, xs, vs, h, p => by
    unfold allP at h
    split at h
    · rename_i ys hy
      cases h
      obtain ⟨y, r, e, h1, h2⟩ := p
      subst e
      exact RepL.cons h1 (allP_ok hy h2)
    · cases h
theorem allP_length : ∀ {ds : List D} {xs : List P}, allP ds = some xs → xs.length = ds.length
  | [], xs, h => by cases h; rfl
  | .loc _ :: _, xs, h => by cases h
  | .clo _ :: _, xs, h => by cases h
  | .clos _ :: _, xs, h => by cases h
  | .p x :: ds, xs, h => by
    unfold allP at h
    split at h
    · rename_i ys hy
      cases h
      rw [List.length_cons, List.length_cons, allP_length hy]
    · cases h
def tupE (as : SA) : SE := fun rt δ M => (as rt δ M).bind fun ds M1 => match allP ds with
  | some xs => if small xs.length then .ok (.p (.tup xs)) M1 else .bad
  | none => .bad
def lstE (mk : Bool) (as : SA) : SE := fun rt δ M => (as rt δ M).bind fun ds M1 => match allP ds with
  | some xs => if small xs.length then finL mk xs M1 else .bad
  | none => .bad
theorem pv_tup {es : List Expr} {mas : SA} {k : Nat} {pos : Pos} (h : PA X es (tA Z rt W mas)) : PE X (.Tuple es k pos) (tE Z rt W (tupE mas)) :=
  PE.imp (pe_tup h) fun σ H Q ⟨ρ, M, δ, r, s, q⟩ => by
    refine tA.thn (useAE (ρ0 := ρ) (H0 := H) r s Ext.refl q) fun vs H1 ⟨ρ1, M1, ds, e1, r1, p1, q1⟩ => ?_
    split at q1
    · rename_i xs hx
      split at q1
      · rename_i hz
        have l := allP_ok hx p1
        have := small_le hz
        refine ⟨by rw [← l.length, sizeLine_eq]; omega, fun p hp => tup_ok r1 hp l (stdO.mono e1 q1)⟩
      · exact q1.elim
    · exact q1.elim
theorem pv_lst {es : List Expr} {mas : SA} {mk : Bool} {pos : Pos} (h : PA X es (tA Z rt W mas)) : PE X (.List es pos) (tE Z rt W (lstE mk mas)) :=
  PE.imp (PE.lk (pe_lst h)) fun σ H Q ⟨ρ, M, δ, r, s, q⟩ => by
    refine tA.thn (useAE (ρ0 := ρ) (H0 := H) r s Ext.refl q) fun vs H1 ⟨ρ1, M1, ds, e1, r1, p1, q1⟩ => ?_
    split at q1
    · rename_i xs hx
      split at q1
      · rename_i hz
        have l := allP_ok hx p1
        have := small_le hz
        refine ⟨by rw [← l.length, sizeLine_eq]; omega, fun p hp => finL_ok r1 hp l ((PostE.noX finL_noX q1 : PostE _ _ (fun _ _ => False)).mono e1)⟩
      · exact q1.elim
    · exact q1.elim

/-! ### chains -/
def chainE (op1 op2 : O2) (a b c : SE) : SE := fun rt δ M => (a rt δ M).bind fun x M1 => (b rt δ M1).bind fun y M2 => (op1 x y M2).bind fun z M3 => match z with
  | .p (.bl true) => (c rt δ M3).bind fun w M4 => op2 y w M4
  | .p (.bl false) => .ok (.p (.bl false)) M3
  | _ => .bad
theorem rD_use {op : O2} {x y : V} {d1 d2 : D} {f : D → Mem → RE} {OK : D → Mem → Prop} {EX : Exn → Mem → Prop} (r : Rl Z ρ M H) (p1 : RepD Z ρ H d1 x) (p2 : RepD Z ρ H d2 y) (hn : NoX (op d1 d2 M)) (h : PostE ((op d1 d2 M).bind f) OK EX) :
    rD Z op x y H (fun v H1 => ∃ ρ1 M1 d, Ext ρ H ρ1 H1 ∧ Rl Z ρ1 M1 H1 ∧ RepD Z ρ1 H1 d v ∧ PostE (f d M1) OK EX) := by
  refine ⟨ρ, M, d1, d2, r, p1, p2, ?_⟩
  cases hm : op d1 d2 M with
  | ok d M1 =>
    rw [hm] at h
    exact fun ρ' v H' e' r' p' => ⟨ρ', M1, d, e', r', p', h⟩
  | exc x M1 => exact absurd hm (hn x M1)
  | bad =>
    rw [hm] at h
    exact h.elim
theorem tChain_of {op1 op2 : O2} {ma mb mc : SE} (h1 : ∀ x y M, NoX (op1 x y M)) (h2 : ∀ x y M, NoX (op2 x y M)) (h : tE Z rt W (chainE op1 op2 ma mb mc) σ H Q) : tChain (rD Z op1) (rD Z op2) (tE Z rt W ma) (tE Z rt W mb) (tE Z rt W mc) σ H Q := by
  obtain ⟨ρ, M, δ, r0, s, q⟩ := h
  refine tE.thn (useEE (ρ0 := ρ) (H0 := H) r0 s Ext.refl q) fun x H1 ⟨ρ1, M1, d1, e1, r1, p1, q1⟩ => ?_
  refine tE.thn (useEE (ρ0 := ρ) (H0 := H) r1 (s.ext e1) e1 q1) fun y H2 ⟨ρ2, M2, d2, e2, r2, p2, q2⟩ => ?_
  obtain ⟨ρa, Ma, da, db, ra, pa, pb, qa⟩ := rD_use r2 (p1.ext e2) p2 (h1 _ _ _) q2
  refine ⟨ρa, Ma, da, db, ra, pa, pb, ?_⟩
  revert qa
  cases op1 da db Ma with
  | bad => exact id
  | exc x M => exact id
  | ok d3 M3 =>
    intro qa ρ3 v3 H3 e3 r3 p3
    obtain ⟨ρ4, M4, d4, e4, r4, p4, q4⟩ := qa ρ3 v3 H3 e3 r3 p3
    split at q4
    · refine ⟨true, rep_bl p4, ?_⟩
      rw [if_pos rfl]
      refine tE.thn (useEE (ρ0 := ρ) (H0 := H) r4 (((s.ext e1).ext e2).ext e4) ((e1.trans e2).trans e4) q4) fun w H5 ⟨ρ5, M5, d5, e5, r5, p5, q5⟩ => ?_
      exact ⟨ρ5, M5, d2, d5, r5, (p2.ext e4).ext e5, p5, (q5.noX (h2 _ _ _)).mono (((e1.trans e2).trans e4).trans e5)⟩
    · refine ⟨false, rep_bl p4, ?_⟩
      rw [if_neg Bool.false_ne_true]
      exact out_bl (EX := fun _ _ => False) r4 (stdO.mono ((e1.trans e2).trans e4) q4)
    · exact q4.elim
theorem pv_chain {o1 o2 : CmpOp} {op1 op2 : O2} {a b c : Expr} {ma mb mc : SE} {pos : Pos} (h1 : ∀ x y M, NoX (op1 x y M)) (h2 : ∀ x y M, NoX (op2 x y M)) (ho1 : OpR X (compareOp o1) (rD Z op1)) (ho2 : OpR X (compareOp o2) (rD Z op2))
    (ha : PE X a (tE Z rt W ma)) (hb : PE X b (tE Z rt W mb)) (hc : PE X c (tE Z rt W mc)) (hm : lastMarks [o1, o2] [b, c] = false) : PE X (.Compare a [o1, o2] [b, c] pos) (tE Z rt W (chainE op1 op2 ma mb mc)) :=
  PE.imp (pe_chain ho1 ho2 ha hb hc hm) fun _ _ _ h => tChain_of h1 h2 h
end
end FW
/-! FwG: and, or, not, if: as values and as tests. -/
namespace FW
open PySem PySem.Spec PyProof.Rows L2

def notE (a : SE) : SE := fun rt δ M => (truE a rt δ M).bind fun k M1 => .ok (.p (.bl (!k))) M1
def andE (a b : SE) : SE := fun rt δ M => (a rt δ M).bind fun x M1 => (truD x M1).bind fun k M2 => if k then b rt δ M2 else .ok x M2
def orE (a b : SE) : SE := fun rt δ M => (a rt δ M).bind fun x M1 => (truD x M1).bind fun k M2 => if k then .ok x M2 else b rt δ M2
def ifE (c : ST) (a b : SE) : SE := fun rt δ M => (c rt δ M).bind fun k M1 => if k then a rt δ M1 else b rt δ M1
def notT (a : ST) : ST := fun rt δ M => (a rt δ M).bindT fun k M1 => .ok (!k) M1
def andT (a b : ST) : ST := fun rt δ M => (a rt δ M).bindT fun k M1 => if k then b rt δ M1 else .ok false M1
def orT (a b : ST) : ST := fun rt δ M => (a rt δ M).bindT fun k M1 => if k then .ok true M1 else b rt δ M1
section
variable {Z : Am} {rt : Rt} {W : WX} {X : Cx} {ρ ρ0 ρ' : Rho} {M : Mem} {H H0 H' : Hp} {δ : Slots} {σ : L2.St} {Q Q' : VK} {QT : Bool → Hp → Prop}
theorem truD_mem {d : D} {M M' : Mem} {k : Bool} (h : truD d M = .ok k M') : M' = M := by
  unfold truD at h
  repeat (first | (cases h; rfl) | cases h | split at h)
theorem truD_noX {d : D} {M : Mem} : ∀ x M', truD d M ≠ .exc x M' := by
  intro x M'
  unfold truD
  repeat (first | exact (fun z => by cases z) | split)
/-- a value's truth, then the rest -/
theorem tru_use (hK : X.K = Z.K) {d : D} {v : V} {f : Bool → Mem → RE} {OK : D → Mem → Prop} {EX : Exn → Mem → Prop} (r : Rl Z ρ M H) (p : RepD Z ρ H d v) (h : PostE ((truD d M).bind f) OK EX) : ∃ k, TruV X.K v H k ∧ PostE (f k M) OK EX := by
  cases hm : truD d M with
  | ok k M1 =>
    have := truD_mem hm
    subst this
    rw [hm] at h
    obtain ⟨k2, h2, h3⟩ := tru_of (X := X) (OK := fun b _ => b = k) (EX := fun _ _ => False) hK r p (by rw [hm]; rfl)
    subst h3
    exact ⟨k2, h2, h⟩
  | exc x M1 => exact absurd hm (truD_noX x M1)
  | bad =>
    rw [hm] at h
    exact h.elim
theorem pv_not {a : Expr} {ma : SE} {pos : Pos} (hK : X.K = Z.K) (ha : PE X a (tE Z rt W ma)) : PE X (.UnaryOp .Not a pos) (tE Z rt W (notE ma)) :=
  PE.imp (pe_notT ha) fun σ H Q ⟨ρ, M, δ, r, s, q⟩ => by
    have q' : PostE ((ma rt δ M).bind fun d M1 => (truD d M1).bind fun k M1 => .ok (.p (.bl (!k))) M1) (stdO Z ρ H Q) (stdX Z W ρ H σ) := by
      have e : (notE ma rt δ M) = ((ma rt δ M).bind fun d M1 => (truD d M1).bind fun k M1 => .ok (.p (.bl (!k))) M1) := by
        unfold notE truE
        cases ma rt δ M <;> rfl
      rw [← e]
      exact q
    refine tE.thn (useEE (ρ0 := ρ) (H0 := H) r s Ext.refl q') fun x H1 ⟨ρ1, M1, d1, e1, r1, p1, q1⟩ => ?_
    obtain ⟨k, hk, q2⟩ := tru_use hK r1 p1 q1
    exact ⟨k, hk, out_bl (EX := fun _ _ => False) r1 (stdO.mono e1 q2)⟩
theorem pv_one {op} {a : Expr} {ma : SE} {pos : Pos} (ha : PE X a (tE Z rt W ma)) : PE X (.BoolOp op [a] pos) (tE Z rt W ma) := pe_one ha
theorem pv_and {a b : Expr} {rest : List Expr} {ma mb : SE} {pos : Pos} (hK : X.K = Z.K) (ha : PE X a (tE Z rt W ma)) (hb : PE X (.BoolOp .And (b :: rest) pos) (tE Z rt W mb)) : PE X (.BoolOp .And (a :: b :: rest) pos) (tE Z rt W (andE ma mb)) :=
  PE.imp (pe_andT ha hb) fun σ H Q ⟨ρ, M, δ, r, s, q⟩ => by
    refine tE.thn (useEE (ρ0 := ρ) (H0 := H) r s Ext.refl q) fun x H1 ⟨ρ1, M1, d1, e1, r1, p1, q1⟩ => ?_
    obtain ⟨k, hk, q2⟩ := tru_use hK r1 p1 q1
    refine ⟨k, hk, ?_⟩
    cases k with
    | true =>
      rw [if_pos rfl] at q2 ⊢
      exact restE r1 (s.ext e1) e1 q2
    | false =>
      rw [if_neg Bool.false_ne_true] at q2 ⊢
      exact q2 ρ1 x H1 e1 r1 p1
theorem pv_or {a b : Expr} {rest : List Expr} {ma mb : SE} {pos : Pos} (hK : X.K = Z.K) (ha : PE X a (tE Z rt W ma)) (hb : PE X (.BoolOp .Or (b :: rest) pos) (tE Z rt W mb)) : PE X (.BoolOp .Or (a :: b :: rest) pos) (tE Z rt W (orE ma mb)) :=
  PE.imp (pe_orT ha hb) fun σ H Q ⟨ρ, M, δ, r, s, q⟩ => by
    refine tE.thn (useEE (ρ0 := ρ) (H0 := H) r s Ext.refl q) fun x H1 ⟨ρ1, M1, d1, e1, r1, p1, q1⟩ => ?_
    obtain ⟨k, hk, q2⟩ := tru_use hK r1 p1 q1
    refine ⟨k, hk, ?_⟩
    cases k with
    | true =>
      rw [if_pos rfl] at q2 ⊢
      exact q2 ρ1 x H1 e1 r1 p1
    | false =>
      rw [if_neg Bool.false_ne_true] at q2 ⊢
      exact restE r1 (s.ext e1) e1 q2
theorem pv_if {c a b : Expr} {mc : ST} {ma mb : SE} {pos : Pos} (hc : PT X c (tT Z rt W mc)) (ha : PE X a (tE Z rt W ma)) (hb : PE X b (tE Z rt W mb)) : PE X (.IfExp c a b pos) (tE Z rt W (ifE mc ma mb)) :=
  PE.imp (pe_ifExp hc ha hb) fun σ H Q ⟨ρ, M, δ, r, s, q⟩ => by
    refine tT.thn (useTE (ρ0 := ρ) (H0 := H) r s Ext.refl q) fun k H1 ⟨ρ1, M1, e1, r1, q1⟩ => ?_
    cases k with
    | true =>
      rw [if_pos rfl] at q1 ⊢
      exact restE r1 (s.ext e1) e1 q1
    | false =>
      rw [if_neg Bool.false_ne_true] at q1 ⊢
      exact restE r1 (s.ext e1) e1 q1
/-! ### tests -/
theorem pt_notD {a : Expr} {ma : ST} {pos : Pos} (ha : PT X a (tT Z rt W ma)) : PT X (.UnaryOp .Not a pos) (tT Z rt W (notT ma)) :=
  PT.imp (pt_not ha) fun σ H Q ⟨ρ, M, δ, r, s, q⟩ => by
    refine tT.thn (useTT (ρ0 := ρ) (H0 := H) r s Ext.refl q) fun k H1 ⟨ρ1, M1, e1, r1, q1⟩ => ?_
    exact q1 ρ1 H1 e1 r1
theorem pw_and1D {a : Expr} {ma : ST} {pos : Pos} (ha : PT X a (tT Z rt W ma)) : PW X (.BoolOp .And [a] pos) (tT Z rt W ma) := pw_and1 ha
theorem pw_or1D {a : Expr} {ma : ST} {pos : Pos} (ha : PT X a (tT Z rt W ma)) : PW X (.BoolOp .Or [a] pos) (tT Z rt W ma) := pw_or1 ha
theorem pw_andD {a b : Expr} {rest : List Expr} {ma mb : ST} {pos : Pos} (ha : PT X a (tT Z rt W ma)) (hb : PW X (.BoolOp .And (b :: rest) pos) (tT Z rt W mb)) : PW X (.BoolOp .And (a :: b :: rest) pos) (tT Z rt W (andT ma mb)) :=
  PW.imp (pw_and ha hb) fun σ H Q ⟨ρ, M, δ, r, s, q⟩ => by
    refine tT.thn (useTT (ρ0 := ρ) (H0 := H) r s Ext.refl q) fun k H1 ⟨ρ1, M1, e1, r1, q1⟩ => ?_
    cases k with
    | true =>
      rw [if_pos rfl] at q1 ⊢
      exact restT r1 (s.ext e1) e1 q1
    | false =>
      rw [if_neg Bool.false_ne_true] at q1 ⊢
      exact q1 ρ1 H1 e1 r1
theorem pw_orD {a b : Expr} {rest : List Expr} {ma mb : ST} {pos : Pos} (ha : PT X a (tT Z rt W ma)) (hb : PW X (.BoolOp .Or (b :: rest) pos) (tT Z rt W mb)) : PW X (.BoolOp .Or (a :: b :: rest) pos) (tT Z rt W (orT ma mb)) :=
  PW.imp (pw_or ha hb) fun σ H Q ⟨ρ, M, δ, r, s, q⟩ => by
    refine tT.thn (useTT (ρ0 := ρ) (H0 := H) r s Ext.refl q) fun k H1 ⟨ρ1, M1, e1, r1, q1⟩ => ?_
    cases k with
    | true =>
      rw [if_pos rfl] at q1 ⊢
      exact q1 ρ1 H1 e1 r1
    | false =>
      rw [if_neg Bool.false_ne_true] at q1 ⊢
      exact restT r1 (s.ext e1) e1 q1
/-- a test that is no not, and, or, if, comparison -/
def plainT : Expr → Bool
  | .UnaryOp .Not _ _ => false
  | .BoolOp _ _ _ => false
  | .IfExp _ _ _ _ => false
  | .Compare _ _ _ _ => false
  | _ => true
theorem plainT_of {a : Expr} {env : Env} (h : plainT a = true) : ∀ whole, isTrue a env whole = (do let v ← whole; standAt a.pos; holding [v] (truthy v)) := fun whole => by
  cases a with
  | UnaryOp op x pos => cases op <;> first | rfl | cases h
  | BoolOp _ _ _ => cases h
  | IfExp _ _ _ _ => cases h
  | Compare _ _ _ _ => cases h
  | _ => rfl
theorem pt_plain {a : Expr} {ma : SE} (hK : X.K = Z.K) (h : plainT a = true) (ha : PE X a (tE Z rt W ma)) : PT X a (tT Z rt W (truE ma)) := pt_val hK ha (plainT_of h)
def isBl (m : SE) : Prop := ∀ rt δ M d M', m rt δ M = .ok d M' → ∃ k, d = .p (.bl k)
theorem binE_bl {op : O2} {ma mb : SE} (h : ∀ x y M d M', op x y M = .ok d M' → ∃ k, d = .p (.bl k)) : isBl (binE op ma mb) := fun rt δ M d M' e => by
  unfold binE at e
  cases h1 : ma rt δ M with
  | ok x M1 =>
    rw [h1] at e
    simp only [RE.bind] at e
    cases h2 : mb rt δ M1 with
    | ok y M2 =>
      rw [h2] at e
      exact h _ _ _ _ _ e
    | exc x M2 => rw [h2] at e; cases e
    | bad => rw [h2] at e; cases e
  | exc x M2 => rw [h1] at e; cases e
  | bad => rw [h1] at e; cases e
theorem pt_cmpD {op : CmpOp} {f : O2} {a b : Expr} {ma mb : SE} {pos : Pos} (hK : X.K = Z.K) (hn : ∀ x y M, NoX (f x y M)) (hbl : ∀ x y M d M', f x y M = .ok d M' → ∃ k, d = .p (.bl k)) (ho : OpR X (compareOp op) (rD Z f)) (ha : PE X a (tE Z rt W ma)) (hb : PE X b (tE Z rt W mb)) (hm : behindInMarks op b = false) :
    PT X (.Compare a [op] [b] pos) (tT Z rt W (truE (binE f ma mb))) :=
  pt_cmp2 hK (pt_cmpR ho ha hb hm) (fun _ _ _ h => tOp_of hn (fun _ _ _ _ h => h) h) (binE_bl hbl)
theorem chainE_bl {op1 op2 : O2} {ma mb mc : SE} (h : ∀ x y M d M', op2 x y M = .ok d M' → ∃ k, d = .p (.bl k)) : isBl (chainE op1 op2 ma mb mc) := fun rt δ M d M' e => by
  unfold chainE at e
  cases h1 : ma rt δ M with
  | ok x M1 =>
    rw [h1] at e
    simp only [RE.bind] at e
    cases h2 : mb rt δ M1 with
    | ok y M2 =>
      rw [h2] at e
      simp only [RE.bind] at e
      cases h3 : op1 x y M2 with
      | ok z M3 =>
        rw [h3] at e
        simp only [RE.bind] at e
        split at e
        · cases h4 : mc rt δ M3 with
          | ok w M4 =>
            rw [h4] at e
            exact h _ _ _ _ _ e
          | exc x M2 => rw [h4] at e; cases e
          | bad => rw [h4] at e; cases e
        · cases e
          exact ⟨_, rfl⟩
        · cases e
      | exc x M2 => rw [h3] at e; cases e
      | bad => rw [h3] at e; cases e
    | exc x M2 => rw [h2] at e; cases e
    | bad => rw [h2] at e; cases e
  | exc x M2 => rw [h1] at e; cases e
  | bad => rw [h1] at e; cases e
theorem pt_chainD {o1 o2 : CmpOp} {op1 op2 : O2} {a b c : Expr} {ma mb mc : SE} {pos : Pos} (hK : X.K = Z.K) (h1 : ∀ x y M, NoX (op1 x y M)) (h2 : ∀ x y M, NoX (op2 x y M)) (hbl : ∀ x y M d M', op2 x y M = .ok d M' → ∃ k, d = .p (.bl k)) (ho1 : OpR X (compareOp o1) (rD Z op1)) (ho2 : OpR X (compareOp o2) (rD Z op2))
    (ha : PE X a (tE Z rt W ma)) (hb : PE X b (tE Z rt W mb)) (hc : PE X c (tE Z rt W mc)) (hm : lastMarks [o1, o2] [b, c] = false) : PT X (.Compare a [o1, o2] [b, c] pos) (tT Z rt W (truE (chainE op1 op2 ma mb mc))) :=
  PT.imp (pt_chain ho1 ho2 ha hb hc hm) fun σ H Q q => by
    obtain ⟨ρ, M, δ, r, s, q⟩ := q
    refine tChain_of h1 h2 ⟨ρ, M, δ, r, s, ?_⟩
    unfold truE at q
    cases hm : chainE op1 op2 ma mb mc rt δ M with
    | ok d M1 =>
      rw [hm] at q
      obtain ⟨k, e⟩ := chainE_bl hbl _ _ _ _ _ hm
      subst e
      exact fun ρ' v H' e' r' p' => ⟨k, rep_bl p', q ρ' H' e' r'⟩
    | exc x M1 =>
      rw [hm] at q
      exact q
    | bad =>
      rw [hm] at q
      exact q
/-- an if as a test -/
def ifT (c a b : ST) : ST := fun rt δ M => (c rt δ M).bindT fun k M1 => if k then a rt δ M1 else b rt δ M1
end
end FW
/-! FwH: statements. -/
namespace FW
open PySem PySem.Spec PyProof.Rows L2

def PostS (r : RS) (nx : Slots → Mem → Prop) (rt : D → Mem → Prop) (bk ct : Slots → Mem → Prop) (ex : Exn → Slots → Mem → Prop) : Prop := match r with
  | .nx s M => nx s M
  | .rt d M => rt d M
  | .bk s M => bk s M
  | .ct s M => ct s M
  | .exc x s M => ex x s M
  | .bad => False
def stdN (Z : Am) (ρ : Rho) (H : Hp) (Q : L2.St → Hp → Prop) : Slots → Mem → Prop := fun δ' M' => ∀ ρ' σ' H', Ext ρ H ρ' H' → Rl Z ρ' M' H' → SlO Z ρ' H' δ' σ' → Q σ' H'
def stdXS (Z : Am) (W : WX) (ρ : Rho) (H : Hp) : Exn → Slots → Mem → Prop := fun x δ' M' => ∀ ρ' σ' cls dx H', Ext ρ H ρ' H' → Rl Z ρ' M' H' → SlO Z ρ' H' δ' σ' → ExR Z H' x cls dx → W cls dx σ' H'
def stdS (Z : Am) (W : WX) (ρ : Rho) (H : Hp) (E : Ends) (r : RS) : Prop := PostS r (stdN Z ρ H E.nx) (stdO Z ρ H E.rt) (stdN Z ρ H E.bk) (stdN Z ρ H E.ct) (stdXS Z W ρ H)
def tS (Z : Am) (rt : Rt) (W : WX) (m : SS) : TS := fun E σ H => ∃ ρ M δ, Rl Z ρ M H ∧ SlO Z ρ H δ σ ∧ stdS Z W ρ H E (m rt δ M)
def badS : SS := fun _ _ _ => .bad
def RE.bindS (r : RE) (δ : Slots) (f : D → Mem → RS) : RS := match r with
  | .ok d M => f d M
  | .exc x M => .exc x δ M
  | .bad => .bad
def RT.bindS (r : RT) (δ : Slots) (f : Bool → Mem → RS) : RS := match r with
  | .ok d M => f d M
  | .exc x M => .exc x δ M
  | .bad => .bad
def RA.bindS (r : RA) (δ : Slots) (f : List D → Mem → RS) : RS := match r with
  | .ok d M => f d M
  | .exc x M => .exc x δ M
  | .bad => .bad
def nilS : SS := fun _ δ M => .nx δ M
def seqS (a b : SS) : SS := fun rt δ M => match a rt δ M with
  | .nx δ' M' => b rt δ' M'
  | r => r
def exprS (e : SE) : SS := fun rt δ M => (e rt δ M).bindS δ fun _ M1 => .nx δ M1
def retS (e : SE) : SS := fun rt δ M => (e rt δ M).bindS δ fun d M1 => .rt d M1
def retNS : SS := fun _ _ M => .rt (.p .non) M
def brkS : SS := fun _ δ M => .bk δ M
def ctS : SS := fun _ δ M => .ct δ M
def ifS (c : ST) (a b : SS) : SS := fun rt δ M => (c rt δ M).bindS δ fun k M1 => if k then a rt δ M1 else b rt δ M1
def setS (i : Nat) (e : SE) : SS := fun rt δ M => (e rt δ M).bindS δ fun d M1 => .nx (δ.set i (some d)) M1
section
variable {Z : Am} {rt : Rt} {W : WX} {X : Cx} {ρ ρ0 ρ' : Rho} {M : Mem} {H H0 H' : Hp} {δ : Slots} {σ : L2.St} {Q Q' : VK} {QT : Bool → Hp → Prop} {E E' : Ends}
theorem PS.imp {st : Stmt} {t t' : TS} (h : PS X st t) (i : ∀ E σ H, t' E σ H → t E σ H) : PS X st t' := ⟨fun pins s σ H D I q => h.run pins s σ H D I (i D σ H q)⟩
theorem PSs.imp {st : List Stmt} {t t' : TS} (h : PSs X st t) (i : ∀ E σ H, t' E σ H → t E σ H) : PSs X st t' := ⟨fun pins s σ H D I q => h.run pins s σ H D I (i D σ H q)⟩
theorem stdN.mono {Q : L2.St → Hp → Prop} (e : Ext ρ0 H0 ρ H) {s : Slots} {M : Mem} (h : stdN Z ρ0 H0 Q s M) : stdN Z ρ H Q s M := fun ρ' σ' H' e' r' p' => h ρ' σ' H' (e.trans e') r' p'
theorem stdXS.mono (e : Ext ρ0 H0 ρ H) {x : Exn} {s : Slots} {M : Mem} (h : stdXS Z W ρ0 H0 x s M) : stdXS Z W ρ H x s M := fun ρ' σ' c d H' e' r' p' => h ρ' σ' c d H' (e.trans e') r' p'
theorem stdS.mono (e : Ext ρ0 H0 ρ H) {r : RS} (h : stdS Z W ρ0 H0 E r) : stdS Z W ρ H E r := by
  cases r with
  | nx s M => exact stdN.mono e h
  | rt d M => exact stdO.mono e h
  | bk s M => exact stdN.mono e h
  | ct s M => exact stdN.mono e h
  | exc x s M => exact stdXS.mono e h
  | bad => exact h
theorem restS {m : SS} (r : Rl Z ρ M H) (s : SlO Z ρ H δ σ) (e : Ext ρ0 H0 ρ H) (h : stdS Z W ρ0 H0 E (m rt δ M)) : tS Z rt W m E σ H := ⟨ρ, M, δ, r, s, h.mono e⟩
theorem xS_of {x : Exn} {M : Mem} (s : SlO Z ρ H δ σ) (e : Ext ρ0 H0 ρ H) (h : stdXS Z W ρ0 H0 x δ M) : stdX Z W ρ H σ x M := fun ρ' cls dx H' e' r' p' => h ρ' σ cls dx H' (e.trans e') r' (s.ext e') p'
theorem useES {m : SE} {f : D → Mem → RS} (r : Rl Z ρ M H) (s : SlO Z ρ H δ σ) (e : Ext ρ0 H0 ρ H) (h : stdS Z W ρ0 H0 E ((m rt δ M).bindS δ f)) :
    tE Z rt W m σ H (fun v H1 => ∃ ρ1 M1 d1, Ext ρ H ρ1 H1 ∧ Rl Z ρ1 M1 H1 ∧ RepD Z ρ1 H1 d1 v ∧ stdS Z W ρ0 H0 E (f d1 M1)) := by
  refine ⟨ρ, M, δ, r, s, ?_⟩
  cases hm : m rt δ M with
  | ok d M1 =>
    rw [hm] at h
    exact fun ρ' v H' e' r' p' => ⟨ρ', M1, d, e', r', p', h⟩
  | exc x M1 =>
    rw [hm] at h
    exact xS_of s e h
  | bad =>
    rw [hm] at h
    exact h.elim
theorem useTS {m : ST} {f : Bool → Mem → RS} (r : Rl Z ρ M H) (s : SlO Z ρ H δ σ) (e : Ext ρ0 H0 ρ H) (h : stdS Z W ρ0 H0 E ((m rt δ M).bindS δ f)) :
    tT Z rt W m σ H (fun b H1 => ∃ ρ1 M1, Ext ρ H ρ1 H1 ∧ Rl Z ρ1 M1 H1 ∧ stdS Z W ρ0 H0 E (f b M1)) := by
  refine ⟨ρ, M, δ, r, s, ?_⟩
  cases hm : m rt δ M with
  | ok d M1 =>
    rw [hm] at h
    exact fun ρ' H' e' r' => ⟨ρ', M1, e', r', h⟩
  | exc x M1 =>
    rw [hm] at h
    exact xS_of s e h
  | bad =>
    rw [hm] at h
    exact h.elim
theorem useAS {m : SA} {f : List D → Mem → RS} (r : Rl Z ρ M H) (s : SlO Z ρ H δ σ) (e : Ext ρ0 H0 ρ H) (h : stdS Z W ρ0 H0 E ((m rt δ M).bindS δ f)) :
    tA Z rt W m σ H (fun vs H1 => ∃ ρ1 M1 ds, Ext ρ H ρ1 H1 ∧ Rl Z ρ1 M1 H1 ∧ RepDs Z ρ1 H1 ds vs ∧ stdS Z W ρ0 H0 E (f ds M1)) := by
  refine ⟨ρ, M, δ, r, s, ?_⟩
  cases hm : m rt δ M with
  | ok d M1 =>
    rw [hm] at h
    exact fun ρ' v H' e' r' p' => ⟨ρ', M1, d, e', r', p', h⟩
  | exc x M1 =>
    rw [hm] at h
    exact xS_of s e h
  | bad =>
    rw [hm] at h
    exact h.elim
theorem ps_badS {st : Stmt} : PS X st (tS Z rt W badS) := ⟨fun _ _ _ _ _ _ ⟨_, _, _, _, _, q⟩ => (show False from q).elim⟩
theorem pss_badS {st : List Stmt} : PSs X st (tS Z rt W badS) := ⟨fun _ _ _ _ _ _ ⟨_, _, _, _, _, q⟩ => (show False from q).elim⟩
theorem pss_nilS : PSs X [] (tS Z rt W nilS) := PSs.imp pss_nil fun E σ H ⟨ρ, M, δ, r, s, q⟩ => q ρ σ H Ext.refl r s
theorem seq_of {a b : SS} (r : Rl Z ρ M H) (s : SlO Z ρ H δ σ) (q : stdS Z W ρ H E (seqS a b rt δ M)) : tS Z rt W a { E with nx := tS Z rt W b E } σ H := by
  refine ⟨ρ, M, δ, r, s, ?_⟩
  unfold seqS at q
  cases hm : a rt δ M with
  | nx δ' M' =>
    rw [hm] at q
    exact fun ρ' σ' H' e' r' s' => restS r' s' e' q
  | rt d M' => rw [hm] at q; exact q
  | bk d M' => rw [hm] at q; exact q
  | ct d M' => rw [hm] at q; exact q
  | exc x d M' => rw [hm] at q; exact q
  | bad => rw [hm] at q; exact q
theorem pss_consS {st : Stmt} {rest : List Stmt} {a b : SS} (h1 : PS X st (tS Z rt W a)) (h2 : PSs X rest (tS Z rt W b)) : PSs X (st :: rest) (tS Z rt W (seqS a b)) :=
  PSs.imp (pss_cons h1 h2) fun E σ H ⟨ρ, M, δ, r, s, q⟩ => seq_of r s q
theorem pss_oneS {st : Stmt} {a : SS} (h1 : PS X st (tS Z rt W a)) : PSs X [st] (tS Z rt W a) := pss_one h1
theorem ps_passS {pos : Pos} : PS X (.Pass pos) (tS Z rt W nilS) := PS.imp ps_pass fun E σ H ⟨ρ, M, δ, r, s, q⟩ => q ρ σ H Ext.refl r s
theorem ps_brkS {pos : Pos} : PS X (.Break pos) (tS Z rt W brkS) := PS.imp ps_break fun E σ H ⟨ρ, M, δ, r, s, q⟩ => q ρ σ H Ext.refl r s
theorem ps_ctS {pos : Pos} : PS X (.Continue pos) (tS Z rt W ctS) := PS.imp ps_continue fun E σ H ⟨ρ, M, δ, r, s, q⟩ => q ρ σ H Ext.refl r s
theorem ps_exprS {e : Expr} {m : SE} {pos : Pos} (he : PE X e (tE Z rt W m)) (hs : swapsWith e none pos.line X.env = pure false) : PS X (.Expr e pos) (tS Z rt W (exprS m)) :=
  PS.imp (ps_expr he hs) fun E σ H ⟨ρ, M, δ, r, s, q⟩ => by
    refine tE.thn (useES (ρ0 := ρ) (H0 := H) r s Ext.refl q) fun x H1 ⟨ρ1, M1, d1, e1, r1, p1, q1⟩ => ?_
    exact q1 ρ1 σ H1 e1 r1 (s.ext e1)
theorem ps_retS {e : Expr} {m : SE} {pos : Pos} (he : PE X e (tE Z rt W m)) : PS X (.Return (some e) pos) (tS Z rt W (retS m)) :=
  PS.imp (ps_ret he) fun E σ H ⟨ρ, M, δ, r, s, q⟩ => by
    refine tE.thn (useES (ρ0 := ρ) (H0 := H) r s Ext.refl q) fun x H1 ⟨ρ1, M1, d1, e1, r1, p1, q1⟩ => ?_
    exact q1 ρ1 x H1 e1 r1 p1
theorem ps_retNS {pos : Pos} : PS X (.Return none pos) (tS Z rt W retNS) := PS.imp ps_retN fun E σ H ⟨ρ, M, δ, r, s, q⟩ => q ρ .non H Ext.refl r (by show Rep Z _ _ _; unfold Rep; rfl)
theorem ps_ifS {c : Expr} {a b : List Stmt} {mc : ST} {ma mb : SS} {pos : Pos} (hc : PT X c (tT Z rt W mc)) (ha : PSs X a (tS Z rt W ma)) (hb : PSs X b (tS Z rt W mb)) : PS X (.If c a b pos) (tS Z rt W (ifS mc ma mb)) :=
  PS.imp (ps_if hc ha hb) fun E σ H ⟨ρ, M, δ, r, s, q⟩ => by
    refine tT.thn (useTS (ρ0 := ρ) (H0 := H) r s Ext.refl q) fun k H1 ⟨ρ1, M1, e1, r1, q1⟩ => ?_
    cases k with
    | true =>
      rw [if_pos rfl] at q1 ⊢
      exact restS r1 (s.ext e1) e1 q1
    | false =>
      rw [if_neg Bool.false_ne_true] at q1 ⊢
      exact restS r1 (s.ext e1) e1 q1
/-- not a comprehension: no swap -/
def notLc : Expr → Bool
  | .ListComp _ _ _ _ => false
  | .SetComp _ _ _ _ => false
  | .DictComp _ _ _ _ _ => false
  | _ => true
theorem swapsWith_of {e : Expr} {t : Option Expr} {l : Nat} {env : Env} (h : notLc e = true) : swapsWith e t l env = pure false := by
  cases e <;> first | rfl | cases h
theorem asg_of {i : Nat} {m : SE} (h : tS Z rt W (setS i m) E σ H) : tAsg (tE Z rt W m) (gName i) E σ H := by
  obtain ⟨ρ, M, δ, r, s, q⟩ := h
  refine tE.thn (useES (ρ0 := ρ) (H0 := H) r s Ext.refl q) fun x H1 ⟨ρ1, M1, d1, e1, r1, p1, q1⟩ => ?_
  exact q1 ρ1 _ H1 e1 r1 ((s.ext e1).set i p1)
theorem ps_setS {i : Nat} {x : Str} {e : Expr} {m : SE} {pos pos' : Pos} (hN : X.N.Nodup) (hi : X.N[i]? = some x) (hx : Loc X.env.scope x) (hf : X.fn x = true ∨ X.env.scope.names.lookup x = some .local) (he : PE X e (tE Z rt W m)) (hs : swapsWith e (some (.Name x pos')) pos.line X.env = pure false) :
    PS X (.Assign [.Name x pos'] e pos) (tS Z rt W (setS i m)) := PS.imp (ps_set hN hi hx he hs hf) fun _ _ _ h => asg_of h
/-! ### a, b = x, y: two names, swapped stores -/
def parS (i j : Nat) (as : SA) : SS := fun rt δ M => (as rt δ M).bindS δ fun ds M1 => match ds with
  | [x, y] => .nx ((δ.set i (some x)).set j (some y)) M1
  | _ => .bad
theorem ps_parS {i j : Nat} {x y : Str} {a b : Expr} {ma : SA} {pos px py pt : Pos} {kt k2 pt2} (hc : X.calm = true) (hN : X.N.Nodup) (hi : X.N[i]? = some x) (hj : X.N[j]? = some y) (hij : i ≠ j)
    (hx : X.env.scope.names.lookup x = some .local) (hy : X.env.scope.names.lookup y = some .local) (ha : PA X [a, b] (tA Z rt W ma))
    (hw : swappedStores [.Tuple [.Name x px, .Name y py] kt pt] (.Tuple [a, b] k2 pt2) X.env = pure (some [x, y])) :
    PS X (.Assign [.Tuple [.Name x px, .Name y py] kt pt] (.Tuple [a, b] k2 pt2) pos) (tS Z rt W (parS i j ma)) :=
  PS.imp (ps_par hc hN hi hj hij hx hy ha hw) fun E σ H ⟨ρ, M, δ, r, s, q⟩ => by
    refine tA.thn (useAS (ρ0 := ρ) (H0 := H) r s Ext.refl q) fun vs H1 ⟨ρ1, M1, ds, e1, r1, p1, q1⟩ => ?_
    split at q1
    · rename_i d1 d2
      obtain ⟨v1, t1, h1, p1, v2, t2, h2, p2, h3⟩ := p1
      have h3 : t2 = [] := h3
      subst h1 h2 h3
      exact ⟨v1, v2, rfl, q1 ρ1 _ H1 e1 r1 (((s.ext e1).set i p1).set j p2)⟩
    · exact q1.elim
/-! ### targets -/
/-- what a target makes of a value -/
abbrev SG := D → Slots → Mem → Option Slots
/-- the slots differ at most at is -/
structure OnlyAt (is : List Nat) (σ σ' : L2.St) : Prop where
  len : σ'.length = σ.length
  at_ : ∀ j, j ∉ is → σ'[j]? = σ[j]?
theorem OnlyAt.refl {is : List Nat} {σ : L2.St} : OnlyAt is σ σ := ⟨rfl, fun _ _ => rfl⟩
theorem OnlyAt.set {is : List Nat} {σ σ' : L2.St} {i : Nat} {v : Option V} (h : OnlyAt is (σ.set i v) σ') : OnlyAt (i :: is) σ σ' := ⟨by rw [h.len, List.length_set], fun j hj => by
  rw [h.at_ j (fun z => hj (List.mem_cons_of_mem _ z)), List.getElem?_set_ne (fun z => hj (by rw [z]; exact List.mem_cons_self))]⟩
theorem only_wipe {is vs : List Nat} {σ σ' : L2.St} (h : OnlyAt is (L2.wipe σ vs) σ') (hs : ∀ i ∈ is, i ∈ vs) : L2.wipe σ' vs = L2.wipe σ vs := by
  have key : ∀ (ws : List Nat) (τ : L2.St) (j : Nat), (L2.wipe τ ws)[j]? = if j ∈ ws ∧ j < τ.length then some none else τ[j]? := fun ws => by
    induction ws with
    | nil => intro τ j; simp [L2.wipe]
    | cons w ws ih =>
      intro τ j
      unfold L2.wipe
      by_cases hj : w = j
      · subst hj
        by_cases hl : w < τ.length
        · rw [List.getElem?_set_self (by rw [wipe_length]; exact hl), if_pos ⟨List.mem_cons_self, hl⟩]
        · rw [List.getElem?_eq_none (by rw [List.length_set, wipe_length]; omega), if_neg (by intro z; exact hl z.2), List.getElem?_eq_none (by omega)]
      · rw [List.getElem?_set_ne hj, ih]
        have e : (j ∈ w :: ws ∧ j < τ.length) ↔ (j ∈ ws ∧ j < τ.length) := by
          rw [List.mem_cons]
          constructor
          · rintro ⟨z | z, k⟩
            · exact absurd z.symm hj
            · exact ⟨z, k⟩
          · rintro ⟨z, k⟩
            exact ⟨.inr z, k⟩
        simp only [e]
  have hl : σ'.length = σ.length := by rw [h.len, wipe_length]
  refine List.ext_getElem? fun j => ?_
  rw [key, key, hl]
  by_cases hj : j ∈ vs
  · by_cases hk : j < σ.length
    · rw [if_pos ⟨hj, hk⟩, if_pos ⟨hj, hk⟩]
    · rw [if_neg (fun z => hk z.2), if_neg (fun z => hk z.2), List.getElem?_eq_none (by omega), List.getElem?_eq_none (by omega)]
  · rw [if_neg (fun z => hj z.1), if_neg (fun z => hj z.1), h.at_ j (fun z => hj (hs j z)), key, if_neg (fun z => hj z.1)]
def tG (Z : Am) (is : List Nat) (g : SG) : TG := fun v σ H Q => ∃ ρ M δ d, Rl Z ρ M H ∧ SlO Z ρ H δ σ ∧ RepD Z ρ H d v ∧ ∃ δ', g d δ M = some δ' ∧ ∀ σ', OnlyAt is σ σ' → SlO Z ρ H δ' σ' → Q σ' H
def nameG (i : Nat) : SG := fun d δ _ => some (δ.set i (some d))
theorem pg_nameD {i : Nat} {x : Str} {pos : Pos} (hN : X.N.Nodup) (hi : X.N[i]? = some x) (hx : Loc X.env.scope x) (hf : X.fn x = true ∨ X.env.scope.names.lookup x = some .local) : PG X (.Name x pos) (tG Z [i] (nameG i)) :=
  ⟨fun pins s σ H v u Q I r h => (pg_name hN hi hx hf).run pins s σ H v u Q I r (by
    obtain ⟨ρ, M, δ, d, r1, s1, p1, δ', e, q⟩ := h
    cases e
    exact q _ (OnlyAt.set OnlyAt.refl) (s1.set i p1))⟩
/-- (a, b, ..): by the items of a tuple -/
def tupG (is : List Nat) : SG := fun d δ _ => match d with
  | .p (.tup ds) => if ds.length == is.length then some ((is.zip ds).foldl (fun s p => s.set p.1 (some (.p p.2))) δ) else none
  | _ => none
def tGs (Z : Am) (is : List Nat) : TGs := fun vs σ H Q => ∃ ρ M δ ds, Rl Z ρ M H ∧ SlO Z ρ H δ σ ∧ RepL Z H ds vs ∧ ds.length = is.length ∧ ∀ σ', OnlyAt is σ σ' → SlO Z ρ H ((is.zip ds).foldl (fun s p => s.set p.1 (some (.p p.2))) δ) σ' → Q σ' H
theorem pgs_nilD : PGs X [] (tGs Z []) := ⟨fun pins s σ H vs us Q I r h => pgs_nil.run pins s σ H vs us Q I r (by
  obtain ⟨ρ, M, δ, ds, r1, s1, p1, hl, q⟩ := h
  cases ds with
  | nil => exact ⟨p1.unn, q σ OnlyAt.refl s1⟩
  | cons a b => cases hl)⟩
theorem pgs_consD {i : Nat} {is : List Nat} {x : Str} {pos : Pos} {es : List Expr} (hN : X.N.Nodup) (hi : X.N[i]? = some x) (hx : Loc X.env.scope x) (hf : X.fn x = true ∨ X.env.scope.names.lookup x = some .local) (h2 : PGs X es (tGs Z is)) : PGs X (.Name x pos :: es) (tGs Z (i :: is)) :=
  ⟨fun pins s σ H vs us Q I r h => (pgs_cons (pg_name hN hi hx hf) h2 (by rfl)).run pins s σ H vs us Q I r (by
    obtain ⟨ρ, M, δ, ds, r1, s1, p1, hl, q⟩ := h
    cases ds with
    | nil => cases hl
    | cons d ds =>
      obtain ⟨v, t, e, h1, h2⟩ := p1.unc
      subst e
      refine ⟨v, t, rfl, ρ, M, δ.set i (some (.p d)), ds, r1, s1.set i (d := .p d) h1, h2, by simpa using hl, fun σ' o => q σ' o.set⟩)⟩
/-- names alone -/
def namesOnly : List Expr → Bool
  | [] => true
  | .Name _ _ :: r => namesOnly r
  | _ => false
theorem each_name {x : Str} {p : Pos} {r : List Expr} {env : Env} : assignEach (.Name x p :: r) env = (false, assign (.Name x p) env) :: assignEach r env := rfl
theorem names_each (es : List Expr) (env : Env) : namesOnly es = true → (assignEach es env).length = es.length ∧ (assignEach es env).findIdx? (·.1) = none := by
  induction es with
  | nil => intro _; exact ⟨rfl, rfl⟩
  | cons a r ih =>
    intro h
    cases a
    case Name x p =>
      have t := ih h
      rw [each_name]
      generalize assignEach r env = L at t ⊢
      refine ⟨by simp [t.1], ?_⟩
      simp [List.findIdx?_cons, t.2]
    all_goals cases h
theorem pg_tupD {es : List Expr} {is : List Nat} {k : Nat} {pos : Pos} (hK : X.K = Z.K) (hc : X.calm = true) (hn : namesOnly es = true) (hl : es.length = is.length) (h : PGs X es (tGs Z is)) : PG X (.Tuple es k pos) (tG Z is (tupG is)) :=
  ⟨fun pins s σ H v u Q I r hw => (pg_tup (n := is.length) hc h (by rw [(names_each es X.env hn).1, hl]) (names_each es X.env hn).2).run pins s σ H v u Q I r (by
    obtain ⟨ρ, M, δ, d, r1, s1, p1, δ', e, q⟩ := hw
    unfold tupG at e
    split at e
    · rename_i ds
      split at e
      · rename_i hz
        cases e
        have hz : ds.length = is.length := by simpa using hz
        obtain ⟨a, xs, e1, h1, l1⟩ := rep_tup p1
        exact ⟨a, xs, e1, by rw [hK]; exact h1, by rw [← l1.length, hz], ρ, M, δ, ds, r1, s1, l1, hz, q⟩
      · cases e
    · cases e)⟩
/-- target = value -/
def asgS (g : SG) (e : SE) : SS := fun rt δ M => (e rt δ M).bindS δ fun d M1 => match g d δ M1 with
  | some δ' => .nx δ' M1
  | none => .bad
theorem ps_asgS {tg e : Expr} {is : List Nat} {g : SG} {m : SE} {pos : Pos} (he : PE X e (tE Z rt W m)) (hg : PG X tg (tG Z is g)) (hs : swapsWithSole [tg] e pos.line X.env = pure false) (hw : swappedStores [tg] e X.env = pure none)
    (h1 : (assignEach [tg] X.env).map (·.2) = [assign tg X.env]) : PS X (.Assign [tg] e pos) (tS Z rt W (asgS g m)) :=
  PS.imp (ps_asg he hg hs hw h1) fun E σ H ⟨ρ, M, δ, r, s, q⟩ => by
    refine tE.thn (useES (ρ0 := ρ) (H0 := H) r s Ext.refl q) fun x H1 ⟨ρ1, M1, d1, e1, r1, p1, q1⟩ => ?_
    split at q1
    · rename_i δ' hd
      exact ⟨ρ1, M1, δ, d1, r1, s.ext e1, p1, δ', hd, fun σ' _ s' => q1 ρ1 σ' H1 e1 r1 s'⟩
    · exact q1.elim
/-! ### l[i] = e -/
def setSubS (a b e : SE) : SS := fun rt δ M => (e rt δ M).bindS δ fun d M1 => (a rt δ M1).bindS δ fun o M2 => (b rt δ M2).bindS δ fun i M3 => match o, i, d with
  | .loc n, .p (.int k), .p x => (match M3.at_ n with
    | some ds => (match ixN ds.length k with
      | some j => .nx δ (M3.put n (ds.set j x))
      | none => .bad)
    | none => .bad)
  | _, _, _ => .bad
theorem assign_sub {o i : Expr} {pos : Pos} {env : Env} (h : notSl i = true) : ∀ v, assign (.Subscript o i pos) env v = (do
      let ov ← holding [v] (eval o env)
      let iv ← holding [v, ov] (eval i env)
      standAt pos
      holding [v, ov, iv] (setItem ov iv v)
      release [v, ov, iv] []) := fun v => by
  cases i <;> first | rfl | cases h
theorem ps_setSub {o i e : Expr} {mo mi me : SE} {pos p2 : Pos} (hl : notLc e = true) (hs : notSl i = true) (he : PE X e (tE Z rt W me)) (ho : PE X o (tE Z rt W mo)) (hi : PE X i (tE Z rt W mi)) : PS X (.Assign [.Subscript o i p2] e pos) (tS Z rt W (setSubS mo mi me)) :=
  PS.imp (ps_asg he (pg_sub ho hi set_list (assign_sub hs)) (by cases e <;> first | rfl | cases hl) (by rfl) (by rfl)) fun E σ H ⟨ρ, M, δ, r, s, q⟩ => by
    refine tE.thn (useES (ρ0 := ρ) (H0 := H) r s Ext.refl q) fun v H1 ⟨ρ1, M1, d1, e1, r1, p1, q1⟩ => ?_
    refine tE.thn (useES (ρ0 := ρ) (H0 := H) r1 (s.ext e1) e1 q1) fun o H2 ⟨ρ2, M2, d2, e2, r2, p2, q2⟩ => ?_
    refine tE.thn (useES (ρ0 := ρ) (H0 := H) r2 ((s.ext e1).ext e2) (e1.trans e2) q2) fun i H3 ⟨ρ3, M3, d3, e3, r3, p3, q3⟩ => ?_
    replace p2 := p2.ext e3
    replace p1 := (p1.ext e2).ext e3
    split at q3
    · rename_i n k x _ _
      split at q3
      · rename_i ds hd
        split at q3
        · rename_i j hj
          obtain ⟨a, ea, ha⟩ := p2
          obtain ⟨es, xs, h1, h2, h3⟩ := r3.num n a ha
          rw [hd] at h1
          cases h1
          have ek := rep_int p3
          subst ea ek
          obtain ⟨r4, e4⟩ := r3.write (ds := ds.set j x) ha (RepL.set (show Rep Z H3 x v from p1) j h3)
          exact ⟨a, xs, k, j, rfl, rfl, h2, by rw [← h3.length]; exact hj, q3 ρ3 σ _ (((e1.trans e2).trans e3).trans e4) r4 ((((s.ext e1).ext e2).ext e3).ext e4)⟩
        · exact q3.elim
      · exact q3.elim
    · exact q3.elim
/-! ### while -/
def whileL (c : ST) (b : SS) : Nat → SS
  | 0 => badS
  | n + 1 => fun rt δ M => (c rt δ M).bindS δ fun k M1 => if k then (match b rt δ M1 with
      | .nx δ' M' => whileL c b n rt δ' M'
      | .ct δ' M' => whileL c b n rt δ' M'
      | .bk δ' M' => .nx δ' M'
      | r => r) else .nx δ M1
def whileS (c : ST) (b : SS) : SS := fun rt δ M => whileL c b rt.L rt δ M
theorem ps_whileS {c : Expr} {body : List Stmt} {mc : ST} {mb : SS} {pos : Pos} (hp : PassesOwn (model X.prog X.w) X.A X.env X.xe) (hc : PT X c (tT Z rt W mc)) (hb : PSs X body (tS Z rt W mb)) : PS X (.While c body [] pos) (tS Z rt W (whileS mc mb)) :=
  PS.imp (ps_while hp hc hb) fun E σ H ⟨ρ, M, δ, r, s, q⟩ => by
    refine ⟨fun n σ' H' => ∃ ρ' M' δ', Ext ρ H ρ' H' ∧ Rl Z ρ' M' H' ∧ SlO Z ρ' H' δ' σ' ∧ stdS Z W ρ H E (whileL mc mb n rt δ' M'), ⟨rt.L, ρ, M, δ, Ext.refl, r, s, q⟩, ?_⟩
    rintro n σ1 H1 ⟨ρ1, M1, δ1, e1, r1, s1, q1⟩
    cases n with
    | zero => exact (show False from q1).elim
    | succ n =>
      refine tT.thn (useTS (ρ0 := ρ) (H0 := H) r1 s1 e1 q1) fun k H2 ⟨ρ2, M2, e2, r2, q2⟩ => ?_
      cases k with
      | false =>
        rw [if_neg Bool.false_ne_true] at q2 ⊢
        exact q2 ρ2 σ1 H2 (e1.trans e2) r2 (s1.ext e2)
      | true =>
        rw [if_pos rfl] at q2 ⊢
        refine ⟨_, fun σ' H' h => ⟨n, Nat.lt_succ_self n, h⟩, ρ2, M2, δ1, r2, s1.ext e2, ?_⟩
        cases hm : mb rt δ1 M2 with
        | nx δ' M' =>
          rw [hm] at q2
          exact fun ρ' σ' H' e' r' s' => ⟨ρ', M', δ', (e1.trans e2).trans e', r', s', q2⟩
        | ct δ' M' =>
          rw [hm] at q2
          exact fun ρ' σ' H' e' r' s' => ⟨ρ', M', δ', (e1.trans e2).trans e', r', s', q2⟩
        | bk δ' M' =>
          rw [hm] at q2
          exact stdN.mono (e1.trans e2) q2
        | rt d M' =>
          rw [hm] at q2
          exact stdO.mono (e1.trans e2) q2
        | exc x d M' =>
          rw [hm] at q2
          exact stdXS.mono (e1.trans e2) q2
        | bad =>
          rw [hm] at q2
          exact q2
end
end FW
/-! FwI: what is walked; for; list comprehensions. -/
namespace FW
open PySem PySem.Spec PyProof.Rows L2

/-- what is walked: data, or the list of a number, as it stands at each turn -/
inductive Src where
  | seq (ds : List P) | live (n : Nat) | clos (js : List Nat)
inductive RI where
  | ok (s : Src) (M : Mem) | exc (x : Exn) (M : Mem) | bad
abbrev SI := Rt → Slots → Mem → RI
def PostI (r : RI) (ok : Src → Mem → Prop) (ex : Exn → Mem → Prop) : Prop := match r with
  | .ok d M => ok d M
  | .exc x M => ex x M
  | .bad => False
/-- what an iterator serves -/
def Srv (Z : Am) (ρ : Rho) (H : Hp) (J : It) : Src → Prop
  | .seq ds => ∀ ρ' H' i, Ext ρ H ρ' H' → (ds.length ≤ i → J.stop i H') ∧ ∀ d, ds[i]? = some d → J.go i H' ∧ ∀ x H'', J.yld i H' x H'' → (H'' = H' ∨ ∃ p o, H' p = none ∧ H'' = upd H' p o) ∧ Rep Z H'' d x
  | .live n => ∃ a, J = Itl Z.K a ∧ ρ n = some a
  | .clos js => ∀ ρ' H' i, Ext ρ H ρ' H' → (js.length ≤ i → J.stop i H') ∧ ∀ j, js[i]? = some j → J.go i H' ∧ ∀ x H'', J.yld i H' x H'' → H'' = H' ∧ RepD Z ρ' H' (.clo j) x
def stdI (Z : Am) (ρ : Rho) (H : Hp) (R : It → Hp → Prop) : Src → Mem → Prop := fun src M' => ∀ ρ' J H', Ext ρ H ρ' H' → Rl Z ρ' M' H' → Srv Z ρ' H' J src → R J H'
def tI (Z : Am) (rt : Rt) (W : WX) (m : SI) : TI := fun σ H R => ∃ ρ M δ, Rl Z ρ M H ∧ SlO Z ρ H δ σ ∧ PostI (m rt δ M) (stdI Z ρ H R) (stdX Z W ρ H σ)
def RI.bindS (r : RI) (δ : Slots) (f : Src → Mem → RS) : RS := match r with
  | .ok d M => f d M
  | .exc x M => .exc x δ M
  | .bad => .bad
def RI.bind (r : RI) (f : Src → Mem → RE) : RE := match r with
  | .ok d M => f d M
  | .exc x M => .exc x M
  | .bad => .bad
def RE.bindI (r : RE) (f : D → Mem → RI) : RI := match r with
  | .ok d M => f d M
  | .exc x M => .exc x M
  | .bad => .bad
def RA.bindI (r : RA) (f : List D → Mem → RI) : RI := match r with
  | .ok d M => f d M
  | .exc x M => .exc x M
  | .bad => .bad
section
variable {Z : Am} {rt : Rt} {W : WX} {X : Cx} {ρ ρ0 ρ' : Rho} {M : Mem} {H H0 H' : Hp} {δ : Slots} {σ : L2.St} {Q Q' : VK} {QT : Bool → Hp → Prop} {E E' : Ends} {R : It → Hp → Prop} {tg : Expr}
theorem PI.imp {e : Expr} {t t' : TI} (h : PI X tg e t) (i : ∀ σ H Q, t' σ H Q → t σ H Q) : PI X tg e t' := ⟨fun pins s σ H Q I q => h.run pins s σ H Q I (i σ H Q q)⟩
theorem stdI.mono (e : Ext ρ0 H0 ρ H) {s : Src} {M : Mem} (h : stdI Z ρ0 H0 R s M) : stdI Z ρ H R s M := fun ρ' J H' e' r' p' => h ρ' J H' (e.trans e') r' p'
theorem useIS {m : SI} {f : Src → Mem → RS} (r : Rl Z ρ M H) (s : SlO Z ρ H δ σ) (e : Ext ρ0 H0 ρ H) (h : stdS Z W ρ0 H0 E ((m rt δ M).bindS δ f)) :
    tI Z rt W m σ H (fun J H1 => ∃ ρ1 M1 src, Ext ρ H ρ1 H1 ∧ Rl Z ρ1 M1 H1 ∧ Srv Z ρ1 H1 J src ∧ stdS Z W ρ0 H0 E (f src M1)) := by
  refine ⟨ρ, M, δ, r, s, ?_⟩
  cases hm : m rt δ M with
  | ok d M1 =>
    rw [hm] at h
    exact fun ρ' v H' e' r' p' => ⟨ρ', M1, d, e', r', p', h⟩
  | exc x M1 =>
    rw [hm] at h
    exact xS_of s e h
  | bad =>
    rw [hm] at h
    exact h.elim
theorem useIE {m : SI} {f : Src → Mem → RE} {OK : D → Mem → Prop} (r : Rl Z ρ M H) (s : SlO Z ρ H δ σ) (e : Ext ρ0 H0 ρ H) (h : PostE ((m rt δ M).bind f) OK (stdX Z W ρ0 H0 σ)) :
    tI Z rt W m σ H (fun J H1 => ∃ ρ1 M1 src, Ext ρ H ρ1 H1 ∧ Rl Z ρ1 M1 H1 ∧ Srv Z ρ1 H1 J src ∧ PostE (f src M1) OK (stdX Z W ρ0 H0 σ)) := by
  refine ⟨ρ, M, δ, r, s, ?_⟩
  cases hm : m rt δ M with
  | ok d M1 =>
    rw [hm] at h
    exact fun ρ' v H' e' r' p' => ⟨ρ', M1, d, e', r', p', h⟩
  | exc x M1 =>
    rw [hm] at h
    exact fun ρ' cls dx H' e' r' p' => h ρ' cls dx H' (e.trans e') r' p'
  | bad =>
    rw [hm] at h
    exact h.elim
theorem tI.thn {m : SI} {R' : It → Hp → Prop} (h : tI Z rt W m σ H R) (i : ∀ v H', R v H' → R' v H') : tI Z rt W m σ H R' := by
  obtain ⟨ρ, M, δ, r, s, q⟩ := h
  refine ⟨ρ, M, δ, r, s, ?_⟩
  cases hm : m rt δ M with
  | ok d M1 => rw [hm] at q; exact fun ρ' v H' e r p => i v H' (q ρ' v H' e r p)
  | exc x M1 => rw [hm] at q; exact q
  | bad => rw [hm] at q; exact q
theorem useEI {m : SE} {f : D → Mem → RI} {OK : Src → Mem → Prop} (r : Rl Z ρ M H) (s : SlO Z ρ H δ σ) (e : Ext ρ0 H0 ρ H) (h : PostI ((m rt δ M).bindI f) OK (stdX Z W ρ0 H0 σ)) :
    tE Z rt W m σ H (fun v H1 => ∃ ρ1 M1 d, Ext ρ H ρ1 H1 ∧ Rl Z ρ1 M1 H1 ∧ RepD Z ρ1 H1 d v ∧ PostI (f d M1) OK (stdX Z W ρ0 H0 σ)) := by
  refine ⟨ρ, M, δ, r, s, ?_⟩
  cases hm : m rt δ M with
  | ok d M1 =>
    rw [hm] at h
    exact fun ρ' v H' e' r' p' => ⟨ρ', M1, d, e', r', p', h⟩
  | exc x M1 =>
    rw [hm] at h
    exact fun ρ' cls dx H' e' r' p' => h ρ' cls dx H' (e.trans e') r' p'
  | bad =>
    rw [hm] at h
    exact h.elim
theorem useAI {m : SA} {f : List D → Mem → RI} {OK : Src → Mem → Prop} (r : Rl Z ρ M H) (s : SlO Z ρ H δ σ) (e : Ext ρ0 H0 ρ H) (h : PostI ((m rt δ M).bindI f) OK (stdX Z W ρ0 H0 σ)) :
    tA Z rt W m σ H (fun vs H1 => ∃ ρ1 M1 ds, Ext ρ H ρ1 H1 ∧ Rl Z ρ1 M1 H1 ∧ RepDs Z ρ1 H1 ds vs ∧ PostI (f ds M1) OK (stdX Z W ρ0 H0 σ)) := by
  refine ⟨ρ, M, δ, r, s, ?_⟩
  cases hm : m rt δ M with
  | ok d M1 =>
    rw [hm] at h
    exact fun ρ' v H' e' r' p' => ⟨ρ', M1, d, e', r', p', h⟩
  | exc x M1 =>
    rw [hm] at h
    exact fun ρ' cls dx H' e' r' p' => h ρ' cls dx H' (e.trans e') r' p'
  | bad =>
    rw [hm] at h
    exact h.elim
/-! ### an unnumbered list in the making -/
theorem Ext.fake {D : Addr} {xs : List V} {o : HO} (hD : H D = some (.lst xs)) : Ext (fun _ => some D) H (fun _ => some D) (upd H D o) := ⟨fun _ _ h => h, fun _ _ h => .inl h, fun b h => by
    by_cases hb : b = D
    · rw [hb, upd_same]; simp
    · rw [upd_ne hb]; exact h, fun b u h ht hl => by
    by_cases hb : b = D
    · subst hb
      rw [hD] at h
      cases h
      exact absurd rfl (hl ⟨_, rfl⟩ 0)
    · rw [upd_ne hb]; exact h⟩
theorem Rl.at {D : Addr} {xs : List V} {o : HO} (r : Rl Z ρ M H) (hD : H D = some (.lst xs)) (hn : ∀ n, ρ n ≠ some D) : Rl Z ρ M (upd H D o) := by
  have k : ∀ b u, H b = some u → b ≠ D → upd H D o b = some u := fun b u h hb => by rw [upd_ne hb]; exact h
  refine ⟨fun m b q => ?_, r.has, r.inj, r.lt, fun p hp => ?_⟩
  · obtain ⟨es, ys, h1, h2, h3⟩ := r.num m b q
    exact ⟨es, ys, h1, k _ _ h2 (fun z => hn m (by rw [← z]; exact q)), h3.ext (Ext.fake hD)⟩
  · obtain ⟨ps, h1, h2, h3⟩ := r.tabs p hp
    refine ⟨ps, k _ _ h1 (fun z => by rw [z, hD] at h1; cases h1), h2, fun pos cv q => ?_⟩
    obtain ⟨c, q1, q2⟩ := h3 pos cv q
    exact ⟨c, q1, k _ _ q2 (fun z => by rw [z, hD] at q2; cases q2)⟩
theorem Ext.at {D : Addr} {o : HO} (e : Ext ρ0 H0 ρ H) (h0 : H0 D = none) : Ext ρ0 H0 ρ (upd H D o) := ⟨e.rho, e.new, fun b h => by
    by_cases hb : b = D
    · rw [hb, upd_same]; simp
    · rw [upd_ne hb]; exact e.there b h, fun b u h ht hl => by
    rw [upd_ne (ne_of_none h h0)]
    exact e.keep b u h ht hl⟩
theorem Rl.adopt {D : Addr} {xs : List V} {ds : List P} (r : Rl Z ρ M H) (e : Ext ρ0 H0 ρ H) (h0 : H0 D = none) (hD : H D = some (.lst xs)) (hn : ∀ n, ρ n ≠ some D) (h : RepL Z H ds xs) :
    ∃ ρ', Rl Z ρ' (M.new ds) H ∧ Ext ρ0 H0 ρ' H ∧ ρ' M.nx = some D := by
  obtain ⟨ρ', hρ⟩ : ∃ ρ' : Rho, ρ' = fun m => if m == M.nx then some D else ρ m := ⟨_, rfl⟩
  have at1 : ρ' M.nx = some D := by rw [hρ]; simp
  have at2 : ∀ n, n ≠ M.nx → ρ' n = ρ n := fun n hn => by rw [hρ]; simp [hn]
  have lt : ∀ n a, ρ n = some a → n < M.nx := fun n a q => by
    obtain ⟨ds, xs, h1, _⟩ := r.num n a q
    exact r.lt _ _ h1
  have m1 : (M.new ds).at_ M.nx = some ds := by simp [Mem.new]
  have m2 : ∀ n, n ≠ M.nx → (M.new ds).at_ n = M.at_ n := fun n hn => by simp [Mem.new, hn]
  refine ⟨ρ', ⟨fun n a q => ?_, fun n es q => ?_, fun m n a q1 q2 => ?_, fun n es q => ?_, r.tabs⟩, ⟨fun n a q => ?_, fun n a q => ?_, e.there, e.keep⟩, at1⟩
  · by_cases hm : n = M.nx
    · rw [hm, at1] at q
      cases q
      exact ⟨ds, xs, by rw [hm]; exact m1, hD, h⟩
    · rw [at2 n hm] at q
      obtain ⟨es, ys, h1, h2, h3⟩ := r.num n a q
      exact ⟨es, ys, by rw [m2 n hm]; exact h1, h2, h3⟩
  · by_cases hm : n = M.nx
    · exact ⟨D, by rw [hm]; exact at1⟩
    · rw [m2 n hm] at q
      obtain ⟨a, ha⟩ := r.has n es q
      exact ⟨a, by rw [at2 n hm]; exact ha⟩
  · by_cases hm : m = M.nx
    · by_cases hk : n = M.nx
      · omega
      · rw [hm, at1] at q1
        cases q1
        rw [at2 n hk] at q2
        exact absurd q2 (hn n)
    · by_cases hk : n = M.nx
      · rw [hk, at1] at q2
        cases q2
        rw [at2 m hm] at q1
        exact absurd q1 (hn m)
      · rw [at2 m hm] at q1
        rw [at2 n hk] at q2
        exact r.inj m n a q1 q2
  · show n < M.nx + 1
    by_cases hm : n = M.nx
    · omega
    · rw [m2 n hm] at q
      have := r.lt n es q
      omega
  · have q' := e.rho n a q
    have := lt n a q'
    rw [at2 n (by omega)]
    exact q'
  · by_cases hm : n = M.nx
    · rw [hm, at1] at q
      cases q
      exact .inr h0
    · rw [at2 n hm] at q
      exact e.new n a q
/-- a turn of what is served -/
theorem srv_step {d : P} {J : It} {ds : List P} {i : Nat} {x : V} {H2 : Hp} (r : Rl Z ρ M H) (hd : ds[i]? = some d) (hs : J.yld i H x H2) (h : (H2 = H ∨ ∃ p o, H p = none ∧ H2 = upd H p o)) : Rl Z ρ M H2 ∧ Ext ρ H ρ H2 := by
  rcases h with h | ⟨p, o, h1, h2⟩
  · subst h
    exact ⟨r, Ext.refl⟩
  · subst h2
    exact r.laid h1

/-! ### for -/
def RS.loop (r : RS) (k : Slots → Mem → RS) : RS := match r with
  | .nx s M => k s M
  | .ct s M => k s M
  | .bk s M => .nx s M
  | r => r
theorem loop_of {r : RS} {k : Slots → Mem → RS} {N : L2.St → Hp → Prop} (h : stdS Z W ρ0 H0 E (r.loop k)) (e : Ext ρ0 H0 ρ H) (i : ∀ s M, stdS Z W ρ0 H0 E (k s M) → stdN Z ρ H N s M) : stdS Z W ρ H { E with nx := N, ct := N, bk := E.nx } r := by
  cases r with
  | nx s M => exact i s M h
  | ct s M => exact i s M h
  | bk s M => exact stdN.mono e h
  | rt d M => exact stdO.mono e h
  | exc x s M => exact stdXS.mono e h
  | bad => exact h
def forSeq (g : SG) (b : SS) (rt : Rt) : List P → Slots → Mem → RS
  | [], δ, M => .nx δ M
  | d :: ds, δ, M => match g (.p d) δ M with
    | none => .bad
    | some δ1 => (b rt δ1 M).loop (forSeq g b rt ds)
def forLive (g : SG) (b : SS) (rt : Rt) (n : Nat) : Nat → Nat → Slots → Mem → RS
  | 0, _, _, _ => .bad
  | k + 1, i, δ, M => match M.at_ n with
    | none => .bad
    | some ds => match ds[i]? with
      | none => .nx δ M
      | some d => match g (.p d) δ M with
        | none => .bad
        | some δ1 => (b rt δ1 M).loop (forLive g b rt n k (i + 1))
def forS (mi : SI) (g : SG) (b : SS) : SS := fun rt δ M => (mi rt δ M).bindS δ fun src M1 => match src with
  | .seq ds => forSeq g b rt ds δ M1
  | .live n => forLive g b rt n rt.L 0 δ M1
  | .clos _ => .bad
theorem ps_forS {iter : Expr} {body : List Stmt} {mi : SI} {is : List Nat} {g : SG} {mb : SS} {pos : Pos} (hK : X.K = Z.K) (hp : PassesOwn (model X.prog X.w) X.A X.env X.xe) (hc : X.calm = true) (hi : PI X tg iter (tI Z rt W mi)) (hg : PG X tg (tG Z is g)) (hb : PSs X body (tS Z rt W mb))
    (hs : ∀ x, foldedSetIterable iter X.env x = pure x) : PS X (.For tg iter body [] pos) (tS Z rt W (forS mi g mb)) :=
  PS.imp (ps_for hp hc hi hg hb hs) fun E σ H ⟨ρ, M, δ, r, s, q⟩ => by
    refine tI.thn (useIS (ρ0 := ρ) (H0 := H) r s Ext.refl q) fun J H1 ⟨ρ1, M1, src, e1, r1, p1, q1⟩ => ?_
    cases src with
    | seq ds =>
      refine ⟨fun i m σ' H' => m = ds.length - i ∧ ∃ ρ' M' δ', Ext ρ1 H1 ρ' H' ∧ Rl Z ρ' M' H' ∧ SlO Z ρ' H' δ' σ' ∧ stdS Z W ρ H E (forSeq g mb rt (ds.drop i) δ' M'), ⟨ds.length, rfl, ρ1, M1, δ, Ext.refl, r1, s.ext e1, q1⟩, ?_⟩
      rintro i m σ2 H2 ⟨hm, ρ2, M2, δ2, e2, r2, s2, q2⟩
      obtain ⟨p3, p4⟩ := p1 ρ2 H2 i e2
      by_cases hi : i < ds.length
      · right
        have hd : ds[i]? = some ds[i] := List.getElem?_eq_getElem hi
        obtain ⟨g1, g2⟩ := p4 _ hd
        rw [List.drop_eq_getElem_cons hi] at q2
        unfold forSeq at q2
        refine ⟨g1, _, fun σ' H' h => ⟨ds.length - (i + 1), by omega, h⟩, fun x H3 hy => ?_⟩
        obtain ⟨h3, p5⟩ := g2 x H3 hy
        obtain ⟨r3, e3⟩ := srv_step r2 hd hy h3
        split at q2
        · exact q2.elim
        · rename_i δ3 hg3
          refine ⟨ρ2, M2, δ2, .p ds[i], r3, s2.ext e3, p5, δ3, hg3, fun σ' _ s' => ⟨ρ2, M2, δ3, r3, s', ?_⟩⟩
          refine loop_of q2 ((e1.trans e2).trans e3) fun s M h => fun ρ' σ' H' e' r' s' => ?_
          exact ⟨rfl, ρ', M, s, ((e2.trans e3).trans e'), r', s', h⟩
      · left
        refine ⟨p3 (by omega), ?_⟩
        rw [List.drop_eq_nil_of_le (by omega)] at q2
        exact q2 ρ2 σ2 H2 (e1.trans e2) r2 s2
    | clos js => exact (show False from q1).elim
    | live n =>
      obtain ⟨a, ej, ha⟩ := p1
      subst ej
      refine ⟨fun i m σ' H' => ∃ ρ' M' δ', Ext ρ1 H1 ρ' H' ∧ Rl Z ρ' M' H' ∧ SlO Z ρ' H' δ' σ' ∧ stdS Z W ρ H E (forLive g mb rt n m i δ' M'), ⟨rt.L, ρ1, M1, δ, Ext.refl, r1, s.ext e1, q1⟩, ?_⟩
      rintro i m σ2 H2 ⟨ρ2, M2, δ2, e2, r2, s2, q2⟩
      cases m with
      | zero => exact (show False from q2).elim
      | succ m =>
        obtain ⟨ds, xs, h1, h2, h3⟩ := r2.num n a (e2.rho n a ha)
        unfold forLive at q2
        rw [h1] at q2
        simp only at q2
        have sq : SqL Z.K H2 a xs := .of h2
        by_cases hi : i < ds.length
        · right
          have hd : ds[i]? = some ds[i] := List.getElem?_eq_getElem hi
          rw [hd] at q2
          simp only at q2
          obtain ⟨x, hx, px⟩ := h3.get hd
          refine ⟨⟨xs, x, sq, hx⟩, _, fun σ' H' h => ⟨m, by omega, h⟩, fun y H3 hy => ?_⟩
          obtain ⟨hy1, hy2⟩ := hy
          subst hy1
          have hy2 := hy2 xs sq
          rw [hx] at hy2
          cases hy2
          split at q2
          · exact q2.elim
          · rename_i δ3 hg3
            refine ⟨ρ2, M2, δ2, .p ds[i], r2, s2, px, δ3, hg3, fun σ' _ s' => ⟨ρ2, M2, δ3, r2, s', ?_⟩⟩
            refine loop_of q2 (e1.trans e2) fun s M h => fun ρ' σ' H' e' r' s' => ?_
            exact ⟨ρ', M, s, e2.trans e', r', s', h⟩
        · left
          refine ⟨⟨xs, sq, by rw [← h3.length]; omega⟩, ?_⟩
          rw [List.getElem?_eq_none (by omega)] at q2
          exact q2 ρ2 σ2 H2 (e1.trans e2) r2 s2
end
end FW
/-! FwJ: sources; list comprehensions. -/
namespace FW
open PySem PySem.Spec PyProof.Rows L2
section
variable {Z : Am} {rt : Rt} {W : WX} {X : Cx} {ρ ρ0 ρ' : Rho} {M : Mem} {H H0 H' : Hp} {δ : Slots} {σ : L2.St} {Q Q' : VK} {QT : Bool → Hp → Prop} {E E' : Ends} {R : It → Hp → Prop} {tg : Expr}
/-! ### sources -/
def iVal (K : PySem.W.Frag) (tl : TE) : TI := fun σ H R => tl σ H fun x H1 => (∃ a, x = .ref a ∧ (∃ xs, SqL K H1 a xs) ∧ R (Itl K a) H1) ∨ (∃ a, x = .ref a ∧ (∃ xs, SqT K H1 a xs) ∧ R (Itt K a) H1) ∨ (∃ z, x = .str z ∧ R (Its z) H1)
theorem pi_val {l : Expr} {tl : TE} (hl : PE X l tl) : PI X tg l (iVal X.K tl) := by
  refine ⟨fun pins s σ H R I h => ?_⟩
  refine thn (hl.run pins s σ H _ I h) fun v s1 ⟨x, H1, I1, r1, q1⟩ => ?_
  rcases q1 with ⟨a, e, ⟨xs, hq⟩, q⟩ | ⟨a, e, ⟨xs, hq⟩, q⟩ | ⟨z, e, q⟩
  · subst e
    cases r1
    obtain ⟨its, rv, p, hz⟩ := I1.list hq
    refine wpAny_pyIter_list p.isList ?_
    refine ⟨s1.heap.objs.size, [s1.heap.objs.size], _, _, H1, rfl, I1.kept (t' := s1.toks) fun b o e => Heap.get?_push_of_some _ e, turn_list a _, ⟨_, Heap.get?_push_size _ rfl, rfl, rfl⟩, fun b hb => ?_, q⟩
    have e : b = s1.heap.objs.size := by simpa using hb
    subst e
    exact I1.fpOk (Nat.le_refl _) (I1.hok.fresh (Nat.le_refl _))
  · subst e
    cases r1
    obtain ⟨its, rv, p, hz⟩ := I1.tuple hq
    refine wpAny_pyIter_tuple (show s1.heap.IsTuple a its.toArray from p) ?_
    refine ⟨s1.heap.objs.size, [s1.heap.objs.size], _, _, H1, rfl, I1.kept (t' := s1.toks) fun b o e => Heap.get?_push_of_some _ e, turn_tuple a _, ⟨_, Heap.get?_push_size _ rfl, rfl, rfl⟩, fun b hb => ?_, q⟩
    have e : b = s1.heap.objs.size := by simpa using hb
    subst e
    exact I1.fpOk (Nat.le_refl _) (I1.hok.fresh (Nat.le_refl _))
  · subst e
    obtain ⟨t, rfl⟩ := r1
    cases ha : z.cps.all (· < 128)
    · exact wpAny_pyIter_wide ha (pi_one (tk := s1.toks) I1 _ (turn_str _ z t "str_iterator" (.inr rfl)) ⟨_, Heap.get?_push_size _ rfl, rfl, rfl⟩ q)
    · exact wpAny_pyIter_ascii ha (pi_one (tk := s1.toks) I1 _ (turn_str _ z t "str_ascii_iterator" (.inl rfl)) ⟨_, Heap.get?_push_size _ rfl, rfl, rfl⟩ q)
theorem srv_list {a : Addr} {ds : List P} {xs : List V} (hq : Sq0 Z.K H a xs) (l : RepL Z H ds xs) : Srv Z ρ H (Itl Z.K a) (.seq ds) := fun ρ' H' i e => by
  have q : SqL Z.K H' a xs := (e.sq0 hq).seq
  refine ⟨fun h => ⟨xs, q, by rw [← l.length]; exact h⟩, fun d hd => ?_⟩
  obtain ⟨x, hx, px⟩ := (l.ext e).get hd
  refine ⟨⟨xs, x, q, hx⟩, fun y H'' hy => ?_⟩
  obtain ⟨h1, h2⟩ := hy
  subst h1
  have := h2 xs q
  rw [hx] at this
  cases this
  exact ⟨.inl rfl, px⟩
theorem srv_tup {a : Addr} {ds : List P} {xs : List V} (hq : SqT Z.K H a xs) (l : RepL Z H ds xs) : Srv Z ρ H (Itt Z.K a) (.seq ds) := fun ρ' H' i e => by
  have q : SqT Z.K H' a xs := e.sqT hq
  refine ⟨fun h => ⟨xs, q, by rw [← l.length]; exact h⟩, fun d hd => ?_⟩
  obtain ⟨x, hx, px⟩ := (l.ext e).get hd
  refine ⟨⟨xs, x, q, hx⟩, fun y H'' hy => ?_⟩
  obtain ⟨h1, h2⟩ := hy
  subst h1
  have := h2 xs q
  rw [hx] at this
  cases this
  exact ⟨.inl rfl, px⟩
theorem srv_str {z : List Nat} : Srv Z ρ H (Its ⟨z.toArray⟩) (.seq (z.map fun c => .str [c])) := fun ρ' H' i e => by
  refine ⟨fun h => by show (z.toArray).size ≤ i; simpa using h, fun d hd => ?_⟩
  rw [List.getElem?_map] at hd
  cases hc : z[i]? with
  | none => rw [hc] at hd; cases hd
  | some c =>
    rw [hc] at hd
    cases hd
    have hi : i < z.length := by
      rcases Nat.lt_or_ge i z.length with h | h
      · exact h
      · rw [List.getElem?_eq_none h] at hc; cases hc
    refine ⟨by show i < (z.toArray).size; simpa using hi, fun x H'' hy => ?_⟩
    obtain ⟨h1, c', h2, h3⟩ := hy
    subst h1
    have h2 : z.toArray[i]? = some c' := h2
    rw [List.getElem?_toArray, hc] at h2
    cases h2
    refine ⟨.inl rfl, ?_⟩
    rw [h3]
    unfold Rep
    rfl
theorem RepC.get : ∀ {js : List Nat} {xs : List V} {i j : Nat}, RepC Z ρ H js xs → js[i]? = some j → ∃ f, xs[i]? = some (.ref f) ∧ Z.lam j f ρ H
  | [], xs, i, j, h, e => by simp at e
  | j0 :: js, xs, 0, j, h, e => by
    obtain ⟨a, r, h1, h2, h3⟩ := h
    simp at e
    subst e
    subst h1
    exact ⟨a, rfl, h2⟩
  | j0 :: js, xs, i + 1, j, h, e => by
    obtain ⟨a, r, h1, h2, h3⟩ := h
    subst h1
    obtain ⟨f, k1, k2⟩ := RepC.get (i := i) (j := j) h3 (by simpa using e)
    exact ⟨f, by simpa using k1, k2⟩
theorem RepC.length : ∀ {js : List Nat} {xs : List V}, RepC Z ρ H js xs → js.length = xs.length
  | [], xs, h => by
    have h : xs = [] := h
    rw [h]; rfl
  | j :: js, xs, h => by
    obtain ⟨a, r, h1, h2, h3⟩ := h
    rw [h1, List.length_cons, List.length_cons, RepC.length h3]
theorem srv_clos {a : Addr} {js : List Nat} {xs : List V} (hq : Sq0 Z.K H a xs) (l : RepC Z ρ H js xs) : Srv Z ρ H (Itl Z.K a) (.clos js) := fun ρ' H' i e => by
  have q : SqL Z.K H' a xs := (e.sq0 hq).seq
  refine ⟨fun h => ⟨xs, q, by rw [← l.length]; exact h⟩, fun j hj => ?_⟩
  obtain ⟨f, hx, px⟩ := (l.ext e).get hj
  refine ⟨⟨xs, _, q, hx⟩, fun y H'' hy => ?_⟩
  obtain ⟨h1, h2⟩ := hy
  subst h1
  have := h2 xs q
  rw [hx] at this
  cases this
  exact ⟨rfl, f, rfl, px⟩
def srcD (d : D) (M : Mem) : RI := match d with
  | .p (.tup ds) => .ok (.seq ds) M
  | .p (.lst ds) => .ok (.seq ds) M
  | .p (.str z) => .ok (.seq (z.map fun c => .str [c])) M
  | .loc n => (match M.at_ n with
    | some _ => .ok (.live n) M
    | none => .bad)
  | .clos js => .ok (.clos js) M
  | _ => .bad
def valI (m : SE) : SI := fun rt δ M => (m rt δ M).bindI srcD
theorem pi_valD {l : Expr} {ml : SE} (hK : X.K = Z.K) (hl : PE X l (tE Z rt W ml)) : PI X tg l (tI Z rt W (valI ml)) :=
  PI.imp (pi_val hl) fun σ H R ⟨ρ, M, δ, r, s, q⟩ => by
    refine tE.thn (useEI (ρ0 := ρ) (H0 := H) r s Ext.refl q) fun v H1 ⟨ρ1, M1, d1, e1, r1, p1, q1⟩ => ?_
    rw [hK]
    unfold srcD at q1
    split at q1
    · rename_i ds
      obtain ⟨a, xs, e, h1, l1⟩ := rep_tup p1
      exact .inr (.inl ⟨a, e, ⟨xs, h1⟩, q1 ρ1 _ H1 e1 r1 (srv_tup h1 l1)⟩)
    · rename_i ds
      obtain ⟨a, xs, e, h1, l1⟩ : ∃ a xs, v = .ref a ∧ Sq0 Z.K H1 a xs ∧ RepL Z H1 ds xs := by simpa [RepD, Rep] using p1
      exact .inl ⟨a, e, ⟨xs, h1.seq⟩, q1 ρ1 _ H1 e1 r1 (srv_list h1 l1)⟩
    · rename_i z
      have := rep_str p1
      exact .inr (.inr ⟨_, this, q1 ρ1 _ H1 e1 r1 srv_str⟩)
    · rename_i n
      split at q1
      · obtain ⟨a, e, ha⟩ := p1
        obtain ⟨ds, xs, h1, h2, h3⟩ := r1.num n a ha
        exact .inl ⟨a, e, ⟨xs, .of h2⟩, q1 ρ1 _ H1 e1 r1 ⟨a, rfl, ha⟩⟩
      · exact q1.elim
    · rename_i js
      obtain ⟨a, xs, e, h1, l1⟩ := p1
      exact .inl ⟨a, e, ⟨xs, h1.seq⟩, q1 ρ1 _ H1 e1 r1 (srv_clos h1 l1)⟩
    · exact q1.elim
def intRow (lo : Int) (n : Nat) : List P := (List.range n).map fun i => .int (lo + (i : Nat))
theorem srv_range {lo : Int} {n : Nat} : Srv Z ρ H (Itr lo n) (.seq (intRow lo n)) := fun ρ' H' i e => by
  have hl : (intRow lo n).length = n := by unfold intRow; simp
  refine ⟨fun h => by show n ≤ i; rw [hl] at h; exact h, fun d hd => ?_⟩
  have hi : i < n := by
    rcases Nat.lt_or_ge i n with h | h
    · exact h
    · rw [List.getElem?_eq_none (by rw [hl]; exact h)] at hd; cases hd
  refine ⟨hi, fun x H'' hy => ?_⟩
  obtain ⟨h1, h2⟩ := hy
  subst h1 h2
  unfold intRow at hd
  rw [List.getElem?_map, List.getElem?_range hi] at hd
  cases hd
  exact ⟨.inl rfl, by unfold Rep; rfl⟩

theorem small_abs {j : Int} (h : small j.natAbs = true) : -(2 ^ 62) ≤ j ∧ j < 2 ^ 62 := by
  have := small_le h
  omega
theorem repDs1 {d : D} {vs : List V} (h : RepDs Z ρ H [d] vs) : ∃ x, vs = [x] ∧ RepD Z ρ H d x := by
  obtain ⟨x, r, h1, h2, h3⟩ := h
  have h3 : r = [] := h3
  subst h3
  exact ⟨x, h1, h2⟩
theorem repDs2 {d e : D} {vs : List V} (h : RepDs Z ρ H [d, e] vs) : ∃ x y, vs = [x, y] ∧ RepD Z ρ H d x ∧ RepD Z ρ H e y := by
  obtain ⟨x, r, h1, h2, h3⟩ := h
  obtain ⟨y, h4, h5⟩ := repDs1 h3
  subst h4
  exact ⟨x, y, h1, h2, h5⟩
theorem repDs3 {d e f : D} {vs : List V} (h : RepDs Z ρ H [d, e, f] vs) : ∃ x y z, vs = [x, y, z] ∧ RepD Z ρ H d x ∧ RepD Z ρ H e y ∧ RepD Z ρ H f z := by
  obtain ⟨x, r, h1, h2, h3⟩ := h
  obtain ⟨y, z, h4, h5, h6⟩ := repDs2 h3
  subst h4
  exact ⟨x, y, z, h1, h2, h5, h6⟩
/-- range(j) -/
def rngD1 (ds : List D) (M : Mem) : RI := match ds with
  | [.p (.int j)] => if small j.natAbs then .ok (.seq (intRow 0 j.toNat)) M else .bad
  | _ => .bad
def rngI1 (as : SA) : SI := fun rt δ M => (as rt δ M).bindI rngD1
theorem pi_rng1D {a : Expr} {ma : SA} {p pos : Pos} (hg : Gl X "range") (hm : X.mg "range" = none) (ha : PA X [a] (tA Z rt W ma)) (hs : starEach [a] X.env = [(false, eval a X.env)]) : PI X tg (.Call (.Name "range" p) [a] [] pos) (tI Z rt W (rngI1 ma)) :=
  PI.imp (pi_range1 hg hm ha hs) fun σ H R ⟨ρ, M, δ, r, s, q⟩ => by
    refine tA.thn (useAI (ρ0 := ρ) (H0 := H) r s Ext.refl q) fun vs H1 ⟨ρ1, M1, ds, e1, r1, p1, q1⟩ => ?_
    unfold rngD1 at q1
    split at q1
    · rename_i j
      split at q1
      · rename_i hj
        obtain ⟨x, h1, h2⟩ := repDs1 p1
        rw [rep_int h2] at h1
        exact ⟨j, h1, (small_abs hj).1, (small_abs hj).2, q1 ρ1 _ H1 e1 r1 srv_range⟩
      · exact q1.elim
    · exact q1.elim
/-- range(i, j) -/
def rngD2 (ds : List D) (M : Mem) : RI := match ds with
  | [.p (.int i), .p (.int j)] => if small i.natAbs && small j.natAbs then .ok (.seq (intRow i (j - i).toNat)) M else .bad
  | _ => .bad
def rngI2 (as : SA) : SI := fun rt δ M => (as rt δ M).bindI rngD2
theorem pi_rng2D {a b : Expr} {ma : SA} {p pos : Pos} (hg : Gl X "range") (hm : X.mg "range" = none) (ha : PA X [a, b] (tA Z rt W ma)) (hs : starEach [a, b] X.env = [(false, eval a X.env), (false, eval b X.env)]) (hs2 : starEach [b] X.env = [(false, eval b X.env)]) :
    PI X tg (.Call (.Name "range" p) [a, b] [] pos) (tI Z rt W (rngI2 ma)) :=
  PI.imp (pi_range2 hg hm ha hs hs2) fun σ H R ⟨ρ, M, δ, r, s, q⟩ => by
    refine tA.thn (useAI (ρ0 := ρ) (H0 := H) r s Ext.refl q) fun vs H1 ⟨ρ1, M1, ds, e1, r1, p1, q1⟩ => ?_
    unfold rngD2 at q1
    split at q1
    · rename_i i j
      split at q1
      · rename_i hj
        rw [Bool.and_eq_true] at hj
        obtain ⟨x, y, h1, h2, h3⟩ := repDs2 p1
        rw [rep_int h2, rep_int h3] at h1
        have b1 := small_abs hj.1
        have b2 := small_abs hj.2
        exact ⟨i, j, h1, ⟨b1.1, b1.2, b2.1, b2.2⟩, q1 ρ1 _ H1 e1 r1 srv_range⟩
      · exact q1.elim
    · exact q1.elim
/-- range(i, j, -1) -/
def intDown (lo : Int) (n : Nat) : List P := (List.range n).map fun i => .int (lo + (i : Nat) * (-1))
theorem srv_down {lo : Int} {n : Nat} : Srv Z ρ H (Itc lo (-1) n) (.seq (intDown lo n)) := fun ρ' H' i e => by
  have hl : (intDown lo n).length = n := by unfold intDown; simp
  refine ⟨fun h => by show n ≤ i; rw [hl] at h; exact h, fun d hd => ?_⟩
  have hi : i < n := by
    rcases Nat.lt_or_ge i n with h | h
    · exact h
    · rw [List.getElem?_eq_none (by rw [hl]; exact h)] at hd; cases hd
  refine ⟨hi, fun x H'' hy => ?_⟩
  obtain ⟨h1, h2⟩ := hy
  subst h1 h2
  unfold intDown at hd
  rw [List.getElem?_map, List.getElem?_range hi] at hd
  cases hd
  exact ⟨.inl rfl, by unfold Rep; rfl⟩
def rngD3 (ds : List D) (M : Mem) : RI := match ds with
  | [.p (.int i), .p (.int j), .p (.int (.negSucc 0))] => if small i.natAbs && small j.natAbs then .ok (.seq (intDown i (i - j).toNat)) M else .bad
  | _ => .bad
def rngI3 (as : SA) : SI := fun rt δ M => (as rt δ M).bindI rngD3
theorem pi_rng3D {a b c : Expr} {ma : SA} {p pos : Pos} (hg : Gl X "range") (hm : X.mg "range" = none) (ha : PA X [a, b, c] (tA Z rt W ma))
    (hs : starEach [a, b, c] X.env = (false, eval a X.env) :: starEach [b, c] X.env) (hpl : (backTo pos (starEach [b, c] X.env)).any (·.1) = false) :
    PI X tg (.Call (.Name "range" p) [a, b, c] [] pos) (tI Z rt W (rngI3 ma)) :=
  PI.imp (pi_range3 hg hm ha hs hpl) fun σ H R ⟨ρ, M, δ, r, s, q⟩ => by
    refine tA.thn (useAI (ρ0 := ρ) (H0 := H) r s Ext.refl q) fun vs H1 ⟨ρ1, M1, ds, e1, r1, p1, q1⟩ => ?_
    unfold rngD3 at q1
    split at q1
    · rename_i i j
      split at q1
      · rename_i hj
        rw [Bool.and_eq_true] at hj
        obtain ⟨x, y, z, h1, h2, h3, h4⟩ := repDs3 p1
        rw [rep_int h2, rep_int h3, rep_int h4] at h1
        have b1 := small_abs hj.1
        have b2 := small_abs hj.2
        exact ⟨i, j, -1, (i - j).toNat, h1, RgC.neg b1.1 b1.2 b2.1 b2.2, q1 ρ1 _ H1 e1 r1 srv_down⟩
      · exact q1.elim
    · exact q1.elim
/-! ### zip of two lists, of two tuples -/
def zipP : List P → List P → List P
  | a :: as, b :: bs => .tup [a, b] :: zipP as bs
  | _, _ => []
theorem zipP_get : ∀ (as bs : List P) (i : Nat) (d : P), (zipP as bs)[i]? = some d → ∃ a b, as[i]? = some a ∧ bs[i]? = some b ∧ d = .tup [a, b]
  | a :: as, b :: bs, 0, d, h => by
    unfold zipP at h
    cases h
    exact ⟨a, b, rfl, rfl, rfl⟩
  | a :: as, b :: bs, i + 1, d, h => by
    unfold zipP at h
    exact zipP_get as bs i d h
  | [], _, _, _, h => by unfold zipP at h; cases h
  | _ :: _, [], _, _, h => by unfold zipP at h; cases h
theorem zipP_length : ∀ (as bs : List P), (zipP as bs).length = min as.length bs.length
  | a :: as, b :: bs => by unfold zipP; simp only [List.length_cons]; rw [zipP_length as bs]; omega
  | [], _ => by unfold zipP; simp
  | _ :: _, [] => by unfold zipP; simp
def zipD (ds : List D) (M : Mem) : RI := match ds with
  | [.p (.tup as), .p (.tup bs)] => .ok (.seq (zipP as bs)) M
  | [.p (.lst as), .p (.lst bs)] => .ok (.seq (zipP as bs)) M
  | _ => .bad
def zipI (as : SA) : SI := fun rt δ M => (as rt δ M).bindI zipD
theorem rep_pair {T : Addr} {x y : V} {a b : P} (hT : H T = none) (ha : Rep Z H a x) (hb : Rep Z H b y) (r : Rl Z ρ M H) : Rep Z (upd H T (.tup [x, y])) (.tup [a, b]) (.ref T) := by
  obtain ⟨_, e⟩ := r.laid (o := .tup [x, y]) hT
  unfold Rep
  exact ⟨T, [x, y], rfl, .of upd_same, RepL.cons (ha.ext e) (RepL.cons (hb.ext e) RepL.nil)⟩
theorem laidE {T : Addr} {o : HO} (hT : H T = none) : Ext ρ H ρ (upd H T o) := ⟨fun _ _ h => h, fun _ _ h => .inl h, fun a h => by
    by_cases q : a = T
    · rw [q, upd_same]; simp
    · rw [upd_ne q]; exact h, fun a u h _ _ => by
    rw [upd_ne (ne_of_none h hT)]; exact h⟩
theorem rep_pair' {T : Addr} {x y : V} {a b : P} (hT : H T = none) (ha : Rep Z H a x) (hb : Rep Z H b y) : Rep Z (upd H T (.tup [x, y])) (.tup [a, b]) (.ref T) := by
  have e : Ext (fun _ => none) H (fun _ => none) (upd H T (.tup [x, y])) := laidE hT
  unfold Rep
  exact ⟨T, [x, y], rfl, .of upd_same, RepL.cons (ha.ext e) (RepL.cons (hb.ext e) RepL.nil)⟩
theorem srv_zipL {a b : Addr} {ds es : List P} {xs ys : List V} (hq : Sq0 Z.K H a xs) (l : RepL Z H ds xs) (hq2 : Sq0 Z.K H b ys) (l2 : RepL Z H es ys) : Srv Z ρ H (Itz Z.K a b) (.seq (zipP ds es)) := fun ρ' H' i e => by
  have q : SqL Z.K H' a xs := (e.sq0 hq).seq
  have q2 : SqL Z.K H' b ys := (e.sq0 hq2).seq
  have e1 := l.length
  have e2 := l2.length
  refine ⟨fun h => ⟨xs, ys, q, q2, by rw [zipP_length] at h; omega⟩, fun d hd => ?_⟩
  obtain ⟨u, v, hu, hv, ed⟩ := zipP_get _ _ _ _ hd
  obtain ⟨x, hx, px⟩ := (l.ext e).get hu
  obtain ⟨y, hy, py⟩ := (l2.ext e).get hv
  refine ⟨⟨xs, ys, x, y, q, q2, hx, hy⟩, fun w H'' hw => ?_⟩
  obtain ⟨T, x', y', h1, h2, h3, h4, h5⟩ := hw
  have h4 := h4 xs q
  have h5 := h5 ys q2
  rw [hx] at h4
  rw [hy] at h5
  cases h4
  cases h5
  subst h1 h3 ed
  exact ⟨.inr ⟨T, _, h2, rfl⟩, rep_pair' h2 px py⟩
theorem srv_zipT {a b : Addr} {ds es : List P} {xs ys : List V} (hq : SqT Z.K H a xs) (l : RepL Z H ds xs) (hq2 : SqT Z.K H b ys) (l2 : RepL Z H es ys) : Srv Z ρ H (RZ.ItzT Z.K a b) (.seq (zipP ds es)) := fun ρ' H' i e => by
  have q : SqT Z.K H' a xs := e.sqT hq
  have q2 : SqT Z.K H' b ys := e.sqT hq2
  have e1 := l.length
  have e2 := l2.length
  refine ⟨fun h => ⟨xs, ys, q, q2, by rw [zipP_length] at h; omega⟩, fun d hd => ?_⟩
  obtain ⟨u, v, hu, hv, ed⟩ := zipP_get _ _ _ _ hd
  obtain ⟨x, hx, px⟩ := (l.ext e).get hu
  obtain ⟨y, hy, py⟩ := (l2.ext e).get hv
  refine ⟨⟨xs, ys, x, y, q, q2, hx, hy⟩, fun w H'' hw => ?_⟩
  obtain ⟨T, x', y', h1, h2, h3, h4, h5⟩ := hw
  have h4 := h4 xs q
  have h5 := h5 ys q2
  rw [hx] at h4
  rw [hy] at h5
  cases h4
  cases h5
  subst h1 h3 ed
  exact ⟨.inr ⟨T, _, h2, rfl⟩, rep_pair' h2 px py⟩
theorem rep_lst {ds : List P} {v : V} (p : RepD Z ρ H (.p (.lst ds)) v) : ∃ a xs, v = .ref a ∧ Sq0 Z.K H a xs ∧ RepL Z H ds xs := by simpa [RepD, Rep] using p
theorem pi_zipD {e e2 : Expr} {ma : SA} {p pos tpos : Pos} {elts : List Expr} {kk : Nat} (hK : X.K = Z.K) (hg : Gl X "zip") (hm : X.mg "zip" = none) (ha : PA X [e, e2] (tA Z rt W ma))
    (hs : starEach [e, e2] X.env = (false, eval e X.env) :: starEach [e2] X.env) (hpl : (backTo pos (starEach [e2] X.env)).any (·.1) = false) :
    PI X (.Tuple elts kk tpos) (.Call (.Name "zip" p) [e, e2] [] pos) (tI Z rt W (zipI ma)) :=
  PI.imp (RZ.pi_zipA hg hm ha hs hpl) fun σ H R ⟨ρ, M, δ, r, s, q⟩ => by
    refine tA.thn (useAI (ρ0 := ρ) (H0 := H) r s Ext.refl q) fun vs H1 ⟨ρ1, M1, ds, e1, r1, p1, q1⟩ => ?_
    rw [hK]
    unfold zipD at q1
    split at q1
    · obtain ⟨x, y, h1, h2, h3⟩ := repDs2 p1
      obtain ⟨a, xs, ea, ha, la⟩ := rep_tup h2
      obtain ⟨b, ys, eb, hb, lb⟩ := rep_tup h3
      rw [ea, eb] at h1
      exact ⟨a, b, xs, ys, h1, .inr ⟨ha, hb, q1 ρ1 _ H1 e1 r1 (srv_zipT ha la hb lb)⟩⟩
    · obtain ⟨x, y, h1, h2, h3⟩ := repDs2 p1
      obtain ⟨a, xs, ea, ha, la⟩ := rep_lst h2
      obtain ⟨b, ys, eb, hb, lb⟩ := rep_lst h3
      rw [ea, eb] at h1
      exact ⟨a, b, xs, ys, h1, .inl ⟨ha.seq, hb.seq, q1 ρ1 _ H1 e1 r1 (srv_zipL ha la hb lb)⟩⟩
    · exact q1.elim
/-! ### enumerate of a list -/
def enumP : Nat → List P → List P
  | _, [] => []
  | i, d :: ds => .tup [.int i, d] :: enumP (i + 1) ds
theorem enumP_get : ∀ (k : Nat) (ds : List P) (i : Nat) (d : P), (enumP k ds)[i]? = some d → ∃ a, ds[i]? = some a ∧ d = .tup [.int ((k + i : Nat) : Int), a]
  | k, a :: as, 0, d, h => by
    unfold enumP at h
    cases h
    exact ⟨a, rfl, rfl⟩
  | k, a :: as, i + 1, d, h => by
    unfold enumP at h
    obtain ⟨b, h1, h2⟩ := enumP_get (k + 1) as i d h
    exact ⟨b, h1, by rw [h2, show k + 1 + i = k + (i + 1) by omega]⟩
  | k, [], _, _, h => by unfold enumP at h; cases h
theorem enumP_length : ∀ (k : Nat) (ds : List P), (enumP k ds).length = ds.length
  | k, a :: as => by unfold enumP; simp only [List.length_cons]; rw [enumP_length (k + 1) as]
  | k, [] => by unfold enumP; rfl
/-! ### list comprehensions -/
/-- what a comprehension's block raises: nothing -/
def noW : WX := fun _ _ _ _ => False
def wipeS (δ : Slots) : List Nat → Slots
  | [] => δ
  | v :: vs => (wipeS δ vs).set v none
theorem SlO.wipe {vs : List Nat} (h : SlO Z ρ H δ σ) : SlO Z ρ H (wipeS δ vs) (L2.wipe σ vs) := by
  induction vs with
  | nil => exact h
  | cons v vs ih => unfold wipeS L2.wipe; exact ih.drop v
/-- one turn: what is appended -/
inductive RO1 where
  | add (x : P) (M : Mem) | skip (M : Mem) | bad
def lcTurn (g : SG) (tt : ST) (te : SE) (rt : Rt) (δ : Slots) (d : D) (M : Mem) : RO1 := match g d δ M with
  | none => .bad
  | some δ2 => match tt rt δ2 M with
    | .ok true M1 => (match te rt δ2 M1 with
      | .ok (.p y) M2 => .add y M2
      | _ => .bad)
    | .ok false M1 => .skip M1
    | _ => .bad
def yesT : ST := fun _ _ M => .ok true M
def lcSeq (g : SG) (tt : ST) (te : SE) (rt : Rt) (δ : Slots) : List P → List P → Mem → Option (List P × Mem)
  | [], acc, M => some (acc, M)
  | d :: ds, acc, M => match lcTurn g tt te rt δ (.p d) M with
    | .add y M1 => if small acc.length then lcSeq g tt te rt δ ds (acc ++ [y]) M1 else none
    | .skip M1 => lcSeq g tt te rt δ ds acc M1
    | .bad => none
def lcLive (g : SG) (tt : ST) (te : SE) (rt : Rt) (δ : Slots) (n : Nat) : Nat → Nat → List P → Mem → Option (List P × Mem)
  | 0, _, _, _ => none
  | k + 1, i, acc, M => match M.at_ n with
    | none => none
    | some ds => match ds[i]? with
      | none => some (acc, M)
      | some d => match lcTurn g tt te rt δ (.p d) M with
        | .add y M1 => if small acc.length then lcLive g tt te rt δ n k (i + 1) (acc ++ [y]) M1 else none
        | .skip M1 => lcLive g tt te rt δ n k (i + 1) acc M1
        | .bad => none
def lcClo (g : SG) (tt : ST) (te : SE) (rt : Rt) (δ : Slots) : List Nat → List P → Mem → Option (List P × Mem)
  | [], acc, M => some (acc, M)
  | j :: js, acc, M => match lcTurn g tt te rt δ (.clo j) M with
    | .add y M1 => if small acc.length then lcClo g tt te rt δ js (acc ++ [y]) M1 else none
    | .skip M1 => lcClo g tt te rt δ js acc M1
    | .bad => none
def finO (mk : Bool) (o : Option (List P × Mem)) : RE := match o with
  | some (xs, M) => finL mk xs M
  | none => .bad
def lcE (mk : Bool) (vs : List Nat) (mi : SI) (g : SG) (tt : ST) (te : SE) : SE := fun rt δ M => (mi rt δ M).bind fun src M1 => match src with
  | .seq ds => finO mk (lcSeq g tt te rt (wipeS δ vs) ds [] M1)
  | .live n => finO mk (lcLive g tt te rt (wipeS δ vs) n rt.L 0 [] M1)
  | .clos js => finO mk (lcClo g tt te rt (wipeS δ vs) js [] M1)
theorem yes_of (h : tT Z rt W yesT σ H QT) : tYes σ H QT := by
  obtain ⟨ρ, M, δ, r, s, q⟩ := h
  exact q ρ H Ext.refl r
theorem PTs.imp {ifs : List Expr} {t t' : TT} (h : PTs X ifs t) (i : ∀ σ H Q, t' σ H Q → t σ H Q) : PTs X ifs t' := ⟨fun pins s σ H Q I q => h.run pins s σ H Q I (i σ H Q q)⟩
theorem pts_nilD : PTs X [] (tT Z rt W yesT) := PTs.imp pts_nil fun _ _ _ h => yes_of h
/-- the state at a turn -/
structure LcI (Z : Am) (ρ1 : Rho) (H1 : Hp) (D : Addr) (acc : List P) (M' : Mem) (H' : Hp) (ρ' : Rho) : Prop where
  e : Ext ρ1 H1 ρ' H'
  r : Rl Z ρ' M' H'
  far : ∀ n, ρ' n ≠ some D
  at_ : ∃ xs, H' D = some (.lst xs) ∧ RepL Z H' acc xs
theorem lcI_ext {D : Addr} {acc : List P} {M1 : Mem} {H1 H2 H3 : Hp} {ρ1 ρ2 ρ3 : Rho} (i : LcI Z ρ1 H1 D acc M H2 ρ2) (e : Ext ρ2 H2 ρ3 H3) (r : Rl Z ρ3 M1 H3) : LcI Z ρ1 H1 D acc M1 H3 ρ3 := by
  obtain ⟨xs, h1, h2⟩ := i.at_
  refine ⟨i.e.trans e, r, fun n z => ?_, xs, e.keep D _ h1 (fun _ z => by cases z) (fun _ n z => i.far n z), h2.ext e⟩
  rcases e.new n D z with k | k
  · exact i.far n k
  · rw [h1] at k; cases k
theorem lcI_app {D : Addr} {acc : List P} {H1 H2 : Hp} {ρ1 ρ2 : Rho} {y : P} {v : V} (i : LcI Z ρ1 H1 D acc M H2 ρ2) (h0 : H1 D = none) (p : Rep Z H2 y v) (hz : small acc.length = true) :
    ∃ xs, H2 D = some (.lst xs) ∧ xs.length < sizeLine ∧ LcI Z ρ1 H1 D (acc ++ [y]) M (upd H2 D (.lst (xs ++ [v]))) ρ2 := by
  obtain ⟨xs, h1, h2⟩ := i.at_
  have := small_le hz
  refine ⟨xs, h1, by rw [← h2.length, sizeLine_eq]; omega, i.e.at h0, i.r.at h1 i.far, i.far, xs ++ [v], upd_same, ?_⟩
  exact (h2.append (RepL.cons p RepL.nil)).ext (Ext.fake h1)
theorem lcI_fin {mk : Bool} {D : Addr} {acc : List P} {H1 H2 : Hp} {ρ1 ρ2 : Rho} {EX : Exn → Mem → Prop} (i : LcI Z ρ1 H1 D acc M H2 ρ2) (h0 : H1 D = none) (q : PostE (finL mk acc M) (stdO Z ρ1 H1 Q) EX) : LK Q (.ref D) H2 := by
  obtain ⟨xs, h1, h2⟩ := i.at_
  unfold finL at q
  cases mk with
  | true =>
    obtain ⟨ρ3, r3, e3, h3⟩ := i.r.adopt i.e h0 h1 i.far h2
    exact .inl (q ρ3 _ H2 e3 r3 ⟨D, rfl, h3⟩)
  | false =>
    refine .inr ⟨D, xs, rfl, h1, fun o => q ρ2 _ _ (i.e.at h0) (i.r.at h1 i.far) ?_⟩
    show Rep Z _ _ _
    unfold Rep
    exact ⟨D, xs, rfl, .inl ⟨o, upd_same⟩, h2.ext (Ext.fake h1)⟩
/-- one turn, from what it serves -/
theorem lc_turn {D : Addr} {acc : List P} {H1 H2 : Hp} {ρ1 ρ2 : Rho} {is vs : List Nat} {g : SG} {tt : ST} {te : SE} {d : FW.D} {x : V} {Nx : Hp → Prop} {o : RO1} (i : LcI Z ρ1 H1 D acc M H2 ρ2) (h0 : H1 D = none) (hv : ∀ i ∈ is, i ∈ vs)
    (s : SlO Z ρ2 H2 (wipeS δ vs) (L2.wipe σ vs)) (p : RepD Z ρ2 H2 d x) (ho : lcTurn g tt te rt (wipeS δ vs) d M = o) (hb : o ≠ .bad)
    (hN : ∀ acc' M' H' ρ', (match o with
      | .add y M1 => acc' = acc ++ [y] ∧ M' = M1 ∧ small acc.length = true
      | .skip M1 => acc' = acc ∧ M' = M1
      | .bad => False) → LcI Z ρ1 H1 D acc' M' H' ρ' → Nx H') (hz : ∀ y M1, o = .add y M1 → small acc.length = true) :
    tG Z is g x (L2.wipe σ vs) H2 fun σ2 H2 => L2.wipe σ2 vs = L2.wipe σ vs ∧ tT Z rt noW tt σ2 H2 fun b H3 =>
      if b = true then tE Z rt noW te σ2 H3 fun y H4 => ∃ acc, H4 D = some (.lst acc) ∧ acc.length < sizeLine ∧ Nx (upd H4 D (.lst (acc ++ [y]))) else Nx H3 := by
  unfold lcTurn at ho
  cases hg : g d (wipeS δ vs) M with
  | none =>
    rw [hg] at ho
    exact absurd ho.symm hb
  | some δ2 =>
    rw [hg] at ho
    simp only at ho
    refine ⟨ρ2, M, _, d, i.r, s, p, δ2, hg, fun σ' oa s' => ⟨only_wipe oa hv, ?_⟩⟩
    refine ⟨ρ2, M, δ2, i.r, s', ?_⟩
    cases ht : tt rt δ2 M with
    | bad =>
      rw [ht] at ho
      exact absurd ho.symm hb
    | exc x M1 =>
      rw [ht] at ho
      exact absurd ho.symm hb
    | ok b M1 =>
      rw [ht] at ho
      intro ρ3 H3 e3 r3
      have i3 := lcI_ext i e3 r3
      cases b with
      | false =>
        simp only at ho
        subst ho
        rw [if_neg Bool.false_ne_true]
        exact hN acc M1 H3 ρ3 ⟨rfl, rfl⟩ i3
      | true =>
        simp only at ho
        rw [if_pos rfl]
        refine ⟨ρ3, M1, δ2, r3, s'.ext e3, ?_⟩
        cases hq : te rt δ2 M1 with
        | bad =>
          rw [hq] at ho
          exact absurd ho.symm hb
        | exc x M1 =>
          rw [hq] at ho
          exact absurd ho.symm hb
        | ok y M2 =>
          rw [hq] at ho
          cases y with
          | loc n => exact absurd ho.symm hb
          | clo n => exact absurd ho.symm hb
          | clos n => exact absurd ho.symm hb
          | p y =>
            simp only at ho
            subst ho
            intro ρ4 v H4 e4 r4 p4
            obtain ⟨xs, g1, g2, g3⟩ := lcI_app (lcI_ext i3 e4 r4) h0 p4 (hz y M2 rfl)
            exact ⟨xs, g1, g2, hN _ M2 _ ρ4 ⟨rfl, rfl, hz y M2 rfl⟩ g3⟩
theorem tLc_of {mk : Bool} {vs is : List Nat} {mi : SI} {g : SG} {tt : ST} {te : SE} (hv : ∀ i ∈ is, i ∈ vs) (h : tE Z rt W (lcE mk vs mi g tt te) σ H Q) :
    tLc (tI Z rt W mi) (tG Z is g) (tT Z rt noW tt) (tE Z rt noW te) vs σ H (LK Q) := by
  obtain ⟨ρ, M, δ, r, s, q⟩ := h
  refine tI.thn (useIE (ρ0 := ρ) (H0 := H) r s Ext.refl q) fun J H1 ⟨ρ1, M1, src, e1, r1, p1, q1⟩ D hD => ?_
  have i0 : LcI Z ρ1 H1 D [] M1 (upd H1 D (.lst [])) ρ1 := by
    obtain ⟨r2, e2⟩ := r1.laid (o := .lst []) hD
    refine ⟨e2, r2, fun n z => ?_, [], upd_same, RepL.nil⟩
    obtain ⟨_, _, _, h2, _⟩ := r1.num n D z
    rw [hD] at h2; cases h2
  have s1 := (s.ext e1).wipe (vs := vs)
  cases src with
  | seq ds =>
    refine ⟨fun i m H' => m = ds.length - i ∧ ∃ acc M' ρ', LcI Z ρ1 H1 D acc M' H' ρ' ∧ PostE (finO mk (lcSeq g tt te rt (wipeS δ vs) (ds.drop i) acc M')) (stdO Z ρ H Q) (stdX Z W ρ H σ), ⟨ds.length, rfl, [], M1, ρ1, i0, q1⟩, ?_⟩
    rintro i m H2 ⟨hm, acc, M2, ρ2, i2, q2⟩
    obtain ⟨p3, p4⟩ := p1 ρ2 H2 i i2.e
    by_cases hi : i < ds.length
    · right
      have hd : ds[i]? = some ds[i] := List.getElem?_eq_getElem hi
      obtain ⟨g1, g2⟩ := p4 _ hd
      rw [List.drop_eq_getElem_cons hi] at q2
      unfold lcSeq at q2
      refine ⟨g1, _, fun H' h => ⟨ds.length - (i + 1), by omega, h⟩, fun x H3 hy => ?_⟩
      obtain ⟨h3, p5⟩ := g2 x H3 hy
      obtain ⟨r3, e3⟩ := srv_step i2.r hd hy h3
      have i3 := lcI_ext i2 e3 r3
      cases ho : lcTurn g tt te rt (wipeS δ vs) (.p ds[i]) M2 with
      | bad =>
        rw [ho] at q2
        exact (show False from q2).elim
      | skip M3 =>
        rw [ho] at q2
        refine lc_turn (d := .p ds[i]) i3 hD hv (s1.ext i3.e) p5 ho (by intro z; cases z) (fun acc' M' H' ρ' hh i' => ?_) (fun y M1 z => by cases z)
        obtain ⟨h1, h2⟩ := hh
        subst h1 h2
        exact ⟨rfl, _, _, _, i', q2⟩
      | add y M3 =>
        rw [ho] at q2
        simp only at q2
        split at q2
        · rename_i hz
          refine lc_turn (d := .p ds[i]) i3 hD hv (s1.ext i3.e) p5 ho (by intro z; cases z) (fun acc' M' H' ρ' hh i' => ?_) (fun _ _ _ => hz)
          obtain ⟨h1, h2, _⟩ := hh
          subst h1 h2
          exact ⟨rfl, _, _, _, i', q2⟩
        · exact (show False from q2).elim
    · left
      refine ⟨p3 (by omega), ?_⟩
      rw [List.drop_eq_nil_of_le (by omega)] at q2
      exact lcI_fin i2 hD (q2.mono e1)
  | clos js =>
    refine ⟨fun i m H' => m = js.length - i ∧ ∃ acc M' ρ', LcI Z ρ1 H1 D acc M' H' ρ' ∧ PostE (finO mk (lcClo g tt te rt (wipeS δ vs) (js.drop i) acc M')) (stdO Z ρ H Q) (stdX Z W ρ H σ), ⟨js.length, rfl, [], M1, ρ1, i0, q1⟩, ?_⟩
    rintro i m H2 ⟨hm, acc, M2, ρ2, i2, q2⟩
    obtain ⟨p3, p4⟩ := p1 ρ2 H2 i i2.e
    by_cases hi : i < js.length
    · right
      have hd : js[i]? = some js[i] := List.getElem?_eq_getElem hi
      obtain ⟨g1, g2⟩ := p4 _ hd
      rw [List.drop_eq_getElem_cons hi] at q2
      unfold lcClo at q2
      refine ⟨g1, _, fun H' h => ⟨js.length - (i + 1), by omega, h⟩, fun x H3 hy => ?_⟩
      obtain ⟨h3, p5⟩ := g2 x H3 hy
      subst h3
      cases ho : lcTurn g tt te rt (wipeS δ vs) (.clo js[i]) M2 with
      | bad =>
        rw [ho] at q2
        exact (show False from q2).elim
      | skip M3 =>
        rw [ho] at q2
        refine lc_turn i2 hD hv (s1.ext i2.e) p5 ho (by intro z; cases z) (fun acc' M' H' ρ' hh i' => ?_) (fun y M1 z => by cases z)
        obtain ⟨h1, h2⟩ := hh
        subst h1 h2
        exact ⟨rfl, _, _, _, i', q2⟩
      | add y M3 =>
        rw [ho] at q2
        simp only at q2
        split at q2
        · rename_i hz
          refine lc_turn i2 hD hv (s1.ext i2.e) p5 ho (by intro z; cases z) (fun acc' M' H' ρ' hh i' => ?_) (fun _ _ _ => hz)
          obtain ⟨h1, h2, _⟩ := hh
          subst h1 h2
          exact ⟨rfl, _, _, _, i', q2⟩
        · exact (show False from q2).elim
    · left
      refine ⟨p3 (by omega), ?_⟩
      rw [List.drop_eq_nil_of_le (by omega)] at q2
      exact lcI_fin i2 hD (q2.mono e1)
  | live n =>
    obtain ⟨a, ej, ha⟩ := p1
    subst ej
    refine ⟨fun i m H' => ∃ acc M' ρ', LcI Z ρ1 H1 D acc M' H' ρ' ∧ PostE (finO mk (lcLive g tt te rt (wipeS δ vs) n m i acc M')) (stdO Z ρ H Q) (stdX Z W ρ H σ), ⟨rt.L, [], M1, ρ1, i0, q1⟩, ?_⟩
    rintro i m H2 ⟨acc, M2, ρ2, i2, q2⟩
    cases m with
    | zero => exact (show False from q2).elim
    | succ m =>
      obtain ⟨ds, xs, h1, h2, h3⟩ := i2.r.num n a (i2.e.rho n a ha)
      unfold lcLive at q2
      rw [h1] at q2
      simp only at q2
      have sq : SqL Z.K H2 a xs := .of h2
      by_cases hi : i < ds.length
      · right
        have hd : ds[i]? = some ds[i] := List.getElem?_eq_getElem hi
        rw [hd] at q2
        simp only at q2
        obtain ⟨x, hx, px⟩ := h3.get hd
        refine ⟨⟨xs, x, sq, hx⟩, _, fun H' h => ⟨m, by omega, h⟩, fun y H3 hy => ?_⟩
        obtain ⟨hy1, hy2⟩ := hy
        subst hy1
        have hy2 := hy2 xs sq
        rw [hx] at hy2
        cases hy2
        cases ho : lcTurn g tt te rt (wipeS δ vs) (.p ds[i]) M2 with
        | bad =>
          rw [ho] at q2
          exact (show False from q2).elim
        | skip M3 =>
          rw [ho] at q2
          refine lc_turn (d := .p ds[i]) i2 hD hv (s1.ext i2.e) px ho (by intro z; cases z) (fun acc' M' H' ρ' hh i' => ?_) (fun y M1 z => by cases z)
          obtain ⟨h1, h2⟩ := hh
          subst h1 h2
          exact ⟨_, _, _, i', q2⟩
        | add y M3 =>
          rw [ho] at q2
          simp only at q2
          split at q2
          · rename_i hz
            refine lc_turn (d := .p ds[i]) i2 hD hv (s1.ext i2.e) px ho (by intro z; cases z) (fun acc' M' H' ρ' hh i' => ?_) (fun _ _ _ => hz)
            obtain ⟨h1, h2, _⟩ := hh
            subst h1 h2
            exact ⟨_, _, _, i', q2⟩
          · exact (show False from q2).elim
      · left
        refine ⟨⟨xs, sq, by rw [← h3.length]; omega⟩, ?_⟩
        rw [List.getElem?_eq_none (by omega)] at q2
        exact lcI_fin i2 hD (q2.mono e1)
/-- a comprehension's block: what holds in it -/
abbrev InBlk (X : Cx) (scope : Scope) (T : Cx → Prop) : Prop := ∀ (s : Shared) (H : Hp) (C : Addr) (cl : List (Str × Addr)) (fp : List Addr), T (X.blk s H scope (compEnvC scope cl C X.env) fp)
theorem pv_lc {mk : Bool} {elt tg iter : Expr} {ifs : List Expr} {scope : Scope} {own : List (Str × Nat)} {pos : Pos} {is : List Nat} {mi : SI} {g : SG} {tt : ST} {te : SE} (hc : X.calm = true) (hN : X.N.Nodup) (hv : ∀ i ∈ is, i ∈ own.map (·.2)) (hi : PI X tg iter (tI Z rt W mi)) (ok : BlkOk X.N X.env.scope scope own)
    (hg : InBlk X scope fun Y => PG Y tg (tG Z is g)) (ht : InBlk X scope fun Y => PTs Y ifs (tT Z rt noW tt)) (he : InBlk X scope fun Y => PE Y elt (tE Z rt noW te)) (hs : ∀ x, foldedSetIterable iter X.env x = pure x) :
    PE X (.ListComp elt [⟨tg, iter, ifs, 0⟩] scope pos) (tE Z rt W (lcE mk (own.map (·.2)) mi g tt te)) :=
  PE.imp (PE.lk (pe_lc hc hN hi ok hg ht he hs)) fun _ _ _ h => tLc_of hv h
/-- a new list may be locked at the statement's end -/
def LKS (E : Ends) : Ends := { E with nx := fun σ' H' => E.nx σ' H' ∨ ∃ p xs, H' p = some (.lst xs) ∧ ∀ o, E.nx σ' (upd H' p (.frz o (.lst xs))) }
theorem PS.lk {st : Stmt} {t : TS} (h : PS X st t) : PS X st (fun E σ H => t (LKS E) σ H) := ⟨fun pins s σ H E I q => by
  refine thn (h.run pins s σ H (LKS E) I q) fun f s1 z => ?_
  cases f with
  | next =>
    obtain ⟨σ', H', I', q⟩ := z
    rcases q with q | ⟨p, xs, hp, q⟩
    · exact ⟨σ', H', I', q⟩
    · obtain ⟨o, I2⟩ := I'.lock hp True.intro
      exact ⟨σ', _, I2, q o⟩
  | brk => exact z
  | cont => exact z
  | ret v => exact z⟩
theorem ps_setLcD {mk : Bool} {i : Nat} {y : Str} {py : Pos} {elt tg iter : Expr} {ifs : List Expr} {scope : Scope} {own : List (Str × Nat)} {pos spos : Pos} {is : List Nat} {mi : SI} {g : SG} {tt : ST} {te : SE} (hc : X.calm = true) (hN : X.N.Nodup) (hv : ∀ i ∈ is, i ∈ own.map (·.2)) (hy : X.N[i]? = some y) (hyl : X.env.scope.names.lookup y = some .local)
    (hsw : swapsWith (.ListComp elt [⟨tg, iter, ifs, 0⟩] scope pos) (some (.Name y py)) spos.line X.env = pure true) (hi : PI X tg iter (tI Z rt W mi)) (ok : BlkOk X.N X.env.scope scope own)
    (hg : InBlk X scope fun Y => PG Y tg (tG Z is g)) (ht : InBlk X scope fun Y => PTs Y ifs (tT Z rt noW tt)) (he : InBlk X scope fun Y => PE Y elt (tE Z rt noW te)) (hs : ∀ x, foldedSetIterable iter X.env x = pure x) :
    PS X (.Assign [.Name y py] (.ListComp elt [⟨tg, iter, ifs, 0⟩] scope pos) spos) (tS Z rt W (setS i (lcE mk (own.map (·.2)) mi g tt te))) :=
  PS.imp (PS.lk (ps_setLc hc hN hy hyl hsw hi ok hg ht he hs)) fun E σ H h => by
    have h1 := asg_of h
    have h2 : tLc (tI Z rt W mi) (tG Z is g) (tT Z rt noW tt) (tE Z rt noW te) (own.map (·.2)) σ H (LK fun x H1 => gName i x σ H1 E.nx) := tLc_of hv h1
    show tLc (tI Z rt W mi) (tG Z is g) (tT Z rt noW tt) (tE Z rt noW te) (own.map (·.2)) σ H fun x H1 => gName i x σ H1 (LKS E).nx
    have key : ∀ v H', LK (fun x H1 => gName i x σ H1 E.nx) v H' → gName i v σ H' (LKS E).nx := fun v H' z => by
      rcases z with z | ⟨p, xs, e, hp, z⟩
      · exact .inl z
      · subst e
        exact .inr ⟨p, xs, hp, z⟩
    refine tI.thn h2 fun J H1 q D hD => ?_
    obtain ⟨Wm, w0, q⟩ := q D hD
    refine ⟨Wm, w0, fun i m H' w => ?_⟩
    rcases q i m H' w with ⟨a, b⟩ | z
    · exact .inl ⟨a, key _ _ b⟩
    · exact .inr z
end
end FW
/-! FwK: calls of built-ins. -/
namespace FW
open PySem PySem.Spec PyProof.Rows L2

def callB (op : List D → Mem → RE) (as : SA) : SE := fun rt δ M => (as rt δ M).bind op
section
variable {Z : Am} {rt : Rt} {W : WX} {X : Cx} {ρ ρ0 ρ' : Rho} {M : Mem} {H H0 H' : Hp} {δ : Slots} {σ : L2.St} {Q Q' : VK}
theorem tCB_of {op : List D → Mem → RE} {mas : SA} (hn : ∀ ds M, NoX (op ds M)) (h : tE Z rt W (callB op mas) σ H Q) : tCB (rDA Z op) (tA Z rt W mas) σ H Q := by
  obtain ⟨ρ, M, δ, r, s, q⟩ := h
  refine tA.thn (useAE (ρ0 := ρ) (H0 := H) r s Ext.refl q) fun vs H1 ⟨ρ1, M1, ds, e1, r1, p1, q1⟩ => ?_
  exact ⟨ρ1, M1, ds, r1, p1, (q1.noX (hn _ _)).mono e1⟩
theorem pv_callB {x : Str} {id : String} {op : List D → Mem → RE} {p pos : Pos} {e : Expr} {es : List Expr} {mas : SA} (hn : ∀ ds M, NoX (op ds M)) (hc : CallR X (.builtin id) (rDA Z op)) (hg : Gl X x) (hm : X.mg x = none) (hv : bootBuiltins x = some (.builtin id)) (ha : PA X (e :: es) (tA Z rt W mas))
    (hnn : x ≠ "__name__") (hdb : (x == ("__debug__" : Str)) = false) (he : starEach (e :: es) X.env = (false, eval e X.env) :: starEach es X.env) (hpl : (backTo pos (starEach es X.env)).any (·.1) = false) : PE X (.Call (.Name x p) (e :: es) [] pos) (tE Z rt W (callB op mas)) :=
  PE.imp (pe_callB hc hg hm hv ha hnn hdb he hpl) fun _ _ _ h => tCB_of hn h
theorem pv_callTy {x : Str} {T : String} {op : List D → Mem → RE} {p pos : Pos} {e : Expr} {es : List Expr} {mas : SA} (hn : ∀ ds M, NoX (op ds M)) (hc : CallR X (.type T) (rDA Z op)) (hg : Gl X x) (hm : X.mg x = none) (hv : bootBuiltins x = some (.type T)) (ha : PA X (e :: es) (tA Z rt W mas))
    (hnn : x ≠ "__name__") (hdb : (x == ("__debug__" : Str)) = false) (he : starEach (e :: es) X.env = (false, eval e X.env) :: starEach es X.env) (hpl : (backTo pos (starEach es X.env)).any (·.1) = false) : PE X (.Call (.Name x p) (e :: es) [] pos) (tE Z rt W (callB op mas)) :=
  PE.imp (pe_callTy hc hg hm hv ha hnn hdb he hpl) fun _ _ _ h => tCB_of hn h
/-! ### len -/
def lenD (ds : List D) (M : Mem) : RE := match ds with
  | [.p (.str s)] => if small s.length then .ok (.p (.int s.length)) M else .bad
  | [.p (.tup xs)] => .ok (.p (.int xs.length)) M
  | [.p (.lst xs)] => .ok (.p (.int xs.length)) M
  | [.loc n] => (match M.at_ n with
    | some xs => .ok (.p (.int xs.length)) M
    | none => .bad)
  | _ => .bad
theorem lenD_noX (ds : List D) (M : Mem) : NoX (lenD ds M) := fun e M' => by
  unfold lenD
  repeat' split
  all_goals exact fun z => by cases z
theorem cr_lenD (hK : X.K = Z.K) : CallR X (.builtin "len") (rDA Z lenD) := by
  intro pins s σ H xs us Q I rx ⟨ρ, M, ds, r, p, q⟩
  unfold lenD at q
  split at q
  · rename_i z
    split at q
    · rename_i hz
      obtain ⟨x, h1, h2⟩ := repDs1 p
      rw [rep_str h2] at h1
      have := small_le hz
      have hl : (⟨z.toArray⟩ : Str).length = z.length := by simp [Str.length]
      refine call_len pins s σ H _ us Q I rx ⟨_, _, h1, ⟨by rw [hl, sizeLine_eq]; omega, rfl⟩, ?_⟩
      rw [hl]
      exact out_int r q
    · exact q.elim
  · obtain ⟨x, h1, h2⟩ := repDs1 p
    obtain ⟨a, ys, ea, ha, la⟩ := rep_tup h2
    subst ea
    exact call_len pins s σ H _ us Q I rx ⟨_, _, h1, .inr ⟨ys, by rw [hK]; exact ha, rfl⟩, by rw [← la.length]; exact out_int r q⟩
  · obtain ⟨x, h1, h2⟩ := repDs1 p
    obtain ⟨a, ys, ea, ha, la⟩ := rep_lst h2
    subst ea
    exact call_len pins s σ H _ us Q I rx ⟨_, _, h1, .inl ⟨ys, by rw [hK]; exact ha.seq, rfl⟩, by rw [← la.length]; exact out_int r q⟩
  · split at q
    · rename_i ys hy
      obtain ⟨x, h1, a, ea, ha⟩ := repDs1 p
      obtain ⟨es, vs, g1, g2, g3⟩ := r.num _ a ha
      rw [hy] at g1
      cases g1
      subst ea
      exact call_len pins s σ H _ us Q I rx ⟨_, _, h1, .inl ⟨vs, .of g2, rfl⟩, by rw [← g3.length]; exact out_int r q⟩
    · exact q.elim
  · exact q.elim
/-! ### abs, max, min, int -/
def absD (ds : List D) (M : Mem) : RE := match ds with
  | [.p (.int i)] => .ok (.p (.int (if i < 0 then -i else i))) M
  | _ => .bad
theorem absD_noX (ds : List D) (M : Mem) : NoX (absD ds M) := fun e M' => by
  unfold absD
  split <;> exact fun z => by cases z
theorem cr_absD : CallR X (.builtin "abs") (rDA Z absD) := by
  intro pins s σ H xs us Q I rx ⟨ρ, M, ds, r, p, q⟩
  unfold absD at q
  split at q
  · obtain ⟨x, h1, h2⟩ := repDs1 p
    rw [rep_int h2] at h1
    exact call_abs pins s σ H _ us Q I rx ⟨_, h1, out_int r q⟩
  · exact q.elim
def max2D (ds : List D) (M : Mem) : RE := match ds with
  | [.p (.int i), .p (.int j)] => .ok (.p (.int (if j > i then j else i))) M
  | _ => .bad
theorem max2D_noX (ds : List D) (M : Mem) : NoX (max2D ds M) := fun e M' => by
  unfold max2D
  split <;> exact fun z => by cases z
theorem cr_max2D (hc : X.calm = true) : CallR X (.builtin "max") (rDA Z max2D) := by
  intro pins s σ H xs us Q I rx ⟨ρ, M, ds, r, p, q⟩
  unfold max2D at q
  split at q
  · obtain ⟨x, y, h1, h2, h3⟩ := repDs2 p
    rw [rep_int h2, rep_int h3] at h1
    exact call_max2 hc pins s σ H _ us Q I rx ⟨_, _, h1, out_int r q⟩
  · exact q.elim
def min2D (ds : List D) (M : Mem) : RE := match ds with
  | [.p (.int i), .p (.int j)] => .ok (.p (.int (if j < i then j else i))) M
  | _ => .bad
theorem min2D_noX (ds : List D) (M : Mem) : NoX (min2D ds M) := fun e M' => by
  unfold min2D
  split <;> exact fun z => by cases z
theorem cr_min2D (hc : X.calm = true) : CallR X (.builtin "min") (rDA Z min2D) := by
  intro pins s σ H xs us Q I rx ⟨ρ, M, ds, r, p, q⟩
  unfold min2D at q
  split at q
  · obtain ⟨x, y, h1, h2, h3⟩ := repDs2 p
    rw [rep_int h2, rep_int h3] at h1
    exact call_min2 hc pins s σ H _ us Q I rx ⟨_, _, h1, out_int r q⟩
  · exact q.elim
def int1D (ds : List D) (M : Mem) : RE := match ds with
  | [.p (.int i)] => .ok (.p (.int i)) M
  | [.p (.bl k)] => .ok (.p (.int (if k then 1 else 0))) M
  | _ => .bad
theorem int1D_noX (ds : List D) (M : Mem) : NoX (int1D ds M) := fun e M' => by
  unfold int1D
  split <;> exact fun z => by cases z
theorem cr_int1D : CallR X (.type "int") (rDA Z int1D) := by
  intro pins s σ H xs us Q I rx ⟨ρ, M, ds, r, p, q⟩
  unfold int1D at q
  split at q
  · obtain ⟨x, h1, h2⟩ := repDs1 p
    rw [rep_int h2] at h1
    exact call_int1 pins s σ H _ us Q I rx (.inl ⟨_, h1, out_int r q⟩)
  · obtain ⟨x, h1, h2⟩ := repDs1 p
    rw [rep_bl h2] at h1
    exact call_int1 pins s σ H _ us Q I rx (.inr ⟨_, h1, out_int r q⟩)
  · exact q.elim
/-! ### tuple(x), list(x) -/
def tupD (ds : List D) (M : Mem) : RE := match ds with
  | [.p (.tup xs)] => .ok (.p (.tup xs)) M
  | [.p (.lst xs)] => .ok (.p (.tup xs)) M
  | [.loc n] => (match M.at_ n with
    | some xs => .ok (.p (.tup xs)) M
    | none => .bad)
  | _ => .bad
theorem tupD_noX (ds : List D) (M : Mem) : NoX (tupD ds M) := fun e M' => by
  unfold tupD
  repeat' split
  all_goals exact fun z => by cases z
theorem cr_tupD (hK : X.K = Z.K) : CallR X (.type "tuple") (rDA Z tupD) := by
  intro pins s σ H xs us Q I rx ⟨ρ, M, ds, r, p, q⟩
  unfold tupD at q
  split at q
  · obtain ⟨x, h1, h2⟩ := repDs1 p
    obtain ⟨a, ys, ea, ha, la⟩ := rep_tup h2
    subst ea
    exact call_tuple_of pins s σ H _ us Q I rx ⟨a, ys, h1, .inr ⟨by rw [hK]; exact ha, q ρ _ H Ext.refl r h2⟩⟩
  · obtain ⟨x, h1, h2⟩ := repDs1 p
    obtain ⟨a, ys, ea, ha, la⟩ := rep_lst h2
    subst ea
    exact call_tuple_of pins s σ H _ us Q I rx ⟨a, ys, h1, .inl ⟨by rw [hK]; exact ha.seq, fun l hl => tup_ok r hl la q⟩⟩
  · split at q
    · rename_i ys hy
      obtain ⟨x, h1, a, ea, ha⟩ := repDs1 p
      obtain ⟨es, vs, g1, g2, g3⟩ := r.num _ a ha
      rw [hy] at g1
      cases g1
      subst ea
      exact call_tuple_of pins s σ H _ us Q I rx ⟨a, vs, h1, .inl ⟨.of g2, fun l hl => tup_ok r hl g3 q⟩⟩
    · exact q.elim
  · exact q.elim
def listD (mk : Bool) (ds : List D) (M : Mem) : RE := match ds with
  | [.p (.tup xs)] => finL mk xs M
  | [.p (.lst xs)] => finL mk xs M
  | [.loc n] => (match M.at_ n with
    | some xs => finL mk xs M
    | none => .bad)
  | _ => .bad
theorem listD_noX (mk : Bool) (ds : List D) (M : Mem) : NoX (listD mk ds M) := fun e M' => by
  unfold listD finL
  repeat' split
  all_goals exact fun z => by cases z
theorem cr_listD {mk : Bool} (hK : X.K = Z.K) : CallR X (.type "list") (rDA Z (listD mk)) := by
  intro pins s σ H xs us Q I rx ⟨ρ, M, ds, r, p, q⟩
  unfold listD at q
  split at q
  · obtain ⟨x, h1, h2⟩ := repDs1 p
    obtain ⟨a, ys, ea, ha, la⟩ := rep_tup h2
    subst ea
    exact CallR.lk call_list_of pins s σ H _ us Q I rx ⟨a, ys, h1, .inr (by rw [hK]; exact ha), fun l hl => finL_ok r hl la q⟩
  · obtain ⟨x, h1, h2⟩ := repDs1 p
    obtain ⟨a, ys, ea, ha, la⟩ := rep_lst h2
    subst ea
    exact CallR.lk call_list_of pins s σ H _ us Q I rx ⟨a, ys, h1, .inl (by rw [hK]; exact ha.seq), fun l hl => finL_ok r hl la q⟩
  · split at q
    · rename_i ys hy
      obtain ⟨x, h1, a, ea, ha⟩ := repDs1 p
      obtain ⟨es, vs, g1, g2, g3⟩ := r.num _ a ha
      rw [hy] at g1
      cases g1
      subst ea
      exact CallR.lk call_list_of pins s σ H _ us Q I rx ⟨a, vs, h1, .inl (.of g2), fun l hl => finL_ok r hl g3 q⟩
    · exact q.elim
  · exact q.elim
/-! ### all, any of a list of bools -/
def blsP : List P → Option (List Bool)
  | [] => some []
  | .bl b :: ds => match blsP ds with
    | some bs => some (b :: bs)
    | none => none
  | _ :: _ => none
theorem blsP_ok : ∀ {ds : List P} {bs : List Bool} {xs : List V}, blsP ds = some bs → RepL Z H ds xs → xs = bs.map V.bl
  | [], bs, xs, h, l => by
    cases h
    rw [l.unn]
    rfl
  | d :: ds, bs, xs, h, l => by
    cases d <;> first
      | (simp [blsP] at h; done)
      | skip
    unfold blsP at h
    split at h
    · rename_i cs hc
      cases h
      obtain ⟨x, r, h1, h2, h3⟩ := l.unc
      unfold Rep at h2
      rw [h1, h2, blsP_ok hc h3]
      rfl
    · cases h
def allD (ds : List D) (M : Mem) : RE := match ds with
  | [d] => (match lstOf d M with
    | some xs => (match blsP xs with
      | some bs => .ok (.p (.bl (bs.all id))) M
      | none => .bad)
    | none => .bad)
  | _ => .bad
theorem allD_noX (ds : List D) (M : Mem) : NoX (allD ds M) := fun e M' => by
  unfold allD
  repeat' split
  all_goals exact fun z => by cases z
theorem cr_allD (hK : X.K = Z.K) (hc : X.calm = true) : CallR X (.builtin "all") (rDA Z allD) := by
  intro pins s σ H xs us Q I rx ⟨ρ, M, ds, r, p, q⟩
  unfold allD at q
  split at q
  · split at q
    · rename_i ys hy
      split at q
      · rename_i bs hb
        obtain ⟨x, h1, h2⟩ := repDs1 p
        obtain ⟨a, vs, ea, ha, la⟩ := lstOf_ok r h2 hy
        subst ea
        have := blsP_ok hb la
        subst this
        exact cr_all hc pins s σ H _ us Q I rx ⟨a, bs, h1, by rw [hK]; exact ha, out_bl r q⟩
      · exact q.elim
    · exact q.elim
  · exact q.elim
def anyD (ds : List D) (M : Mem) : RE := match ds with
  | [d] => (match lstOf d M with
    | some xs => (match blsP xs with
      | some bs => .ok (.p (.bl (bs.any id))) M
      | none => .bad)
    | none => .bad)
  | _ => .bad
theorem anyD_noX (ds : List D) (M : Mem) : NoX (anyD ds M) := fun e M' => by
  unfold anyD
  repeat' split
  all_goals exact fun z => by cases z
theorem cr_anyD (hK : X.K = Z.K) (hc : X.calm = true) : CallR X (.builtin "any") (rDA Z anyD) := by
  intro pins s σ H xs us Q I rx ⟨ρ, M, ds, r, p, q⟩
  unfold anyD at q
  split at q
  · split at q
    · rename_i ys hy
      split at q
      · rename_i bs hb
        obtain ⟨x, h1, h2⟩ := repDs1 p
        obtain ⟨a, vs, ea, ha, la⟩ := lstOf_ok r h2 hy
        subst ea
        have := blsP_ok hb la
        subst this
        exact cr_any hc pins s σ H _ us Q I rx ⟨a, bs, h1, by rw [hK]; exact ha, out_bl r q⟩
      · exact q.elim
    · exact q.elim
  · exact q.elim
/-! ### isinstance(e, T), T a built-in type -/
inductive BT where
  | int | bool | str | tuple | list | dict
def BT.name : BT → String
  | .int => "int"
  | .bool => "bool"
  | .str => "str"
  | .tuple => "tuple"
  | .list => "list"
  | .dict => "dict"
/-- which: 0 None, 1 bool, 2 int, 3 str, 4 tuple, 5 list -/
def isBT (t : BT) (d : D) : Option Bool := match d with
  | .p .non => some false
  | .p (.bl _) => some (match t with | .int => true | .bool => true | _ => false)
  | .p (.int _) => some (match t with | .int => true | _ => false)
  | .p (.str _) => some (match t with | .str => true | _ => false)
  | .p (.tup _) => some (match t with | .tuple => true | _ => false)
  | .p (.lst _) => some (match t with | .list => true | _ => false)
  | .loc _ => some (match t with | .list => true | _ => false)
  | .p (.dic _ _) => some (match t with | .dict => true | _ => false)
  | _ => none
theorem tyX_seq {K : PySem.W.Frag} {a : Addr} {xs : List V} (h : SqL K H a xs) : TyX K H (.ref a) (.type "list") := by
  rcases h with (h | ⟨o, h⟩) | ⟨o, its, n, h1, h2, _⟩
  · exact .base (.lst h)
  · exact .base (.frz h)
  · exact .kList h1 h2
theorem tyX_tup {K : PySem.W.Frag} {a : Addr} {xs : List V} (h : SqT K H a xs) : TyX K H (.ref a) (.type "tuple") := by
  rcases h with (h | ⟨o, h⟩) | ⟨o, its, n, h1, h2, _⟩
  · exact .base (.tup h)
  · exact .fTuple h
  · exact .kTuple h1 h2
theorem kitBs (a : String) (ha : a = "NoneType" ∨ a = "bool" ∨ a = "int" ∨ a = "str" ∨ a = "tuple" ∨ a = "list" ∨ a = "dict") (t : BT) : kitB a t.name = some (match t with
    | .int => a == "bool" || a == "int"
    | .bool => a == "bool"
    | .str => a == "str"
    | .tuple => a == "tuple"
    | .list => a == "list"
    | .dict => a == "dict") := by
  rcases ha with e | e | e | e | e | e | e <;> subst e <;> cases t <;> decide +kernel
def isiD (t : BT) (d : D) (M : Mem) : RE := match isBT t d with
  | some b => .ok (.p (.bl b)) M
  | none => .bad
theorem isiD_noX (t : BT) (d : D) (M : Mem) : NoX (isiD t d M) := fun e M' => by
  unfold isiD
  split <;> exact fun z => by cases z
theorem isiD_ok {t : BT} {d : D} {x : V} {b : Bool} (hK : X.K = Z.K) (r : Rl Z ρ M H) (p : RepD Z ρ H d x) (h : isBT t d = some b) : ∃ a, TyX X.K H x (.type a) ∧ kitB a t.name = some b := by
  rw [hK]
  unfold isBT at h
  split at h
  · rw [rep_non p]
    refine ⟨_, .base .non, ?_⟩
    rw [kitBs "NoneType" (by simp) t]
    cases h
    cases t <;> rfl
  · rw [rep_bl p]
    refine ⟨_, .base (.bl _), ?_⟩
    rw [kitBs "bool" (by simp) t]
    cases h
    cases t <;> rfl
  · rw [rep_int p]
    refine ⟨_, .base (.int _), ?_⟩
    rw [kitBs "int" (by simp) t]
    cases h
    cases t <;> rfl
  · rw [rep_str p]
    refine ⟨_, .base (.str _), ?_⟩
    rw [kitBs "str" (by simp) t]
    cases h
    cases t <;> rfl
  · obtain ⟨a, ys, ea, ha, la⟩ := rep_tup p
    subst ea
    refine ⟨_, tyX_tup ha, ?_⟩
    rw [kitBs "tuple" (by simp) t]
    cases h
    cases t <;> rfl
  · obtain ⟨a, ys, ea, ha, la⟩ := rep_lst p
    subst ea
    refine ⟨_, tyX_seq ha.seq, ?_⟩
    rw [kitBs "list" (by simp) t]
    cases h
    cases t <;> rfl
  · obtain ⟨a, ea, ha⟩ := p
    obtain ⟨es, vs, g1, g2, g3⟩ := r.num _ a ha
    subst ea
    refine ⟨_, .base (.lst g2), ?_⟩
    rw [kitBs "list" (by simp) t]
    cases h
    cases t <;> rfl
  · rename_i ks ds
    obtain ⟨a, o, kv, ea, ha, _⟩ : ∃ a o kv, x = .ref a ∧ H a = some (.frz o (.dK kv)) ∧ ks = kv.map (fun p => keyP p.1) ∧ RepL Z H ds (kv.map (·.2)) := by simpa [RepD, Rep] using p
    subst ea
    refine ⟨_, .fDict ha, ?_⟩
    rw [kitBs "dict" (by simp) t]
    cases h
    cases t <;> rfl
  · cases h
theorem pv_isi {t : BT} {x : Str} {p p2 pos : Pos} {e : Expr} {me : SE} (hK : X.K = Z.K) (hg : Gl X "isinstance") (hm : X.mg "isinstance" = none) (hg2 : Gl X x) (hm2 : X.mg x = none) (hv : bootBuiltins x = some (.type t.name)) (hnn : x ≠ "__name__") (hdb : (x == ("__debug__" : Str)) = false) (he : PE X e (tE Z rt W me))
    (h1 : starEach [e, .Name x p2] X.env = (false, eval e X.env) :: starEach [.Name x p2] X.env) :
    PE X (.Call (.Name "isinstance" p) [e, .Name x p2] [] pos) (tE Z rt W (unE (isiD t) me)) := by
  have hn : PE X (.Name x p2) (tC (.ty t.name)) := pe_bltn hg2 hm2 hv rfl hnn hdb
  refine PE.imp (pe_callB (x := "isinstance") call_isi hg hm PyProof.Rows.boot_isinstance (pa_cons he (pa_cons hn pa_nil (by rfl)) h1) (by decide) (by decide) h1 (by rfl)) fun σ H Q ⟨ρ, M, δ, r, s, q⟩ => ?_
  refine tE.thn (useEE (ρ0 := ρ) (H0 := H) r s Ext.refl q) fun v H1 ⟨ρ1, M1, d1, e1, r1, p1, q1⟩ => ?_
  unfold isiD at q1
  split at q1
  · rename_i b hb
    obtain ⟨a, ha, hk⟩ := isiD_ok hK r1 p1 hb
    exact ⟨v, .ty t.name, _, _, b, rfl, .ty _, ha, kit_ty hk, out_bl r1 (show PostE (.ok (.p (.bl b)) M1) (stdO Z ρ1 H1 Q) (fun _ _ => False) from stdO.mono e1 q1)⟩
  · exact q1.elim
end
end FW
/-! FwL: more operations: *, append, reversed, three names, repr. -/
namespace FW
open PySem PySem.Spec PyProof.Rows L2
section
variable {Z : Am} {rt : Rt} {W : WX} {X : Cx} {ρ ρ0 ρ' : Rho} {M : Mem} {H H0 H' : Hp} {δ : Slots} {σ : L2.St} {Q Q' : VK} {E : Ends}
/-! ### * of ints, of a tuple and an int -/
def repP (n : Nat) (xs : List P) : List P := (List.replicate n xs).flatten
def mulD (mk : Bool) : O2 := fun x y M => match x, y with
  | .p (.int i), .p (.int j) => if Nat.blt (i.natAbs.log2 + j.natAbs.log2) 1000000 then .ok (.p (.int (i * j))) M else .bad
  | .p (.tup xs), .p (.int j) => if Nat.ble 2 j.toNat && Nat.ble j.toNat 1000 && Nat.ble 1 xs.length && Nat.ble xs.length 1000 then .ok (.p (.tup (repP j.toNat xs))) M else .bad
  | .loc n, .p (.int j) => (match M.at_ n with
    | some xs => if small j.natAbs && small (xs.length * j.toNat) then finL mk (repP j.toNat xs) M else .bad
    | none => .bad)
  | _, _ => .bad
theorem mulD_noX (mk : Bool) (x y : D) (M : Mem) : NoX (mulD mk x y M) := fun e M' => by
  unfold mulD finL
  repeat' split
  all_goals exact fun z => by cases z
theorem repL_rep {ds : List P} {xs : List V} (l : RepL Z H ds xs) : ∀ n, RepL Z H (repP n ds) (List.replicate n xs).flatten
  | 0 => by
    unfold repP
    exact RepL.nil
  | n + 1 => by
    unfold repP
    rw [List.replicate_succ, List.flatten_cons, List.replicate_succ, List.flatten_cons]
    exact l.append (repL_rep l n)
theorem op_mulD {mk : Bool} (hK : X.K = Z.K) : OpR X (binaryOp .Mult) (rD Z (mulD mk)) := by
  intro pins s σ H x y v u Q I rx ry ⟨ρ, M, d1, d2, r, p1, p2, q⟩
  unfold mulD at q
  split at q
  · have e1 := rep_int p1
    have e2 := rep_int p2
    subst e1 e2
    split at q
    · rename_i hc
      have hc := Nat.le_of_ble_eq_true hc
      exact op_mulW pins s σ H _ _ v u Q I rx ry ⟨_, _, rfl, rfl, hc, out_int r q⟩
    · exact q.elim
  · rename_i xs j
    obtain ⟨a, ys, ea, ha, la⟩ := rep_tup p1
    have e2 := rep_int p2
    subst ea e2
    split at q
    · rename_i hc
      simp only [Bool.and_eq_true] at hc
      obtain ⟨⟨⟨h1, h2⟩, h3⟩, h4⟩ := hc
      have h1 := Nat.le_of_ble_eq_true h1
      have h2 := Nat.le_of_ble_eq_true h2
      have h3 := Nat.le_of_ble_eq_true h3
      have h4 := Nat.le_of_ble_eq_true h4
      have hl := la.length
      refine op_repT pins s σ H _ _ v u Q I rx ry ⟨a, j, ys, rfl, rfl, by rw [hK]; exact ha, by intro z; rw [z, List.length_nil] at hl; omega, by omega, by omega, by rw [← hl]; omega, fun p hp => tup_ok r hp (repL_rep la j.toNat) q⟩
    · exact q.elim
  · rename_i n j
    split at q
    · rename_i xs hx
      obtain ⟨a, ea, ha⟩ := p1
      obtain ⟨es, vs, g1, g2, g3⟩ := r.num _ a ha
      rw [hx] at g1
      cases g1
      have e2 := rep_int p2
      subst ea e2
      split at q
      · rename_i hc
        rw [Bool.and_eq_true] at hc
        have h1 := small_le hc.1
        have h2 := small_le hc.2
        have hl := g3.length
        refine OpR.lk op_rep pins s σ H _ _ v u Q I rx ry ⟨a, j, vs, rfl, rfl, g2, by omega, by omega, by rw [← hl, sizeLine_eq]; omega, fun p hp => finL_ok r hp (repL_rep g3 j.toNat) q⟩
      · exact q.elim
    · exact q.elim
  · exact q.elim
/-! ### l.append(e) -/
def appE (mo me : SE) : SE := fun rt δ M => (mo rt δ M).bind fun o M1 => match o with
  | .loc n => (me rt δ M1).bind fun x M2 => (match x with
    | .p y => (match M2.at_ n with
      | some ds => if small ds.length then .ok (.p .non) (M2.put n (ds ++ [y])) else .bad
      | none => .bad)
    | _ => .bad)
  | _ => .bad
theorem pv_app {o e : Expr} {mo me : SE} {apos cpos : Pos} (ho : PE X o (tE Z rt W mo)) (he : PE X e (tE Z rt W me)) (h1 : starEach [e] X.env = (false, eval e X.env) :: starEach [] X.env)
    (hbase : attributeBase o "append" X.env (eval o X.env) = eval o X.env)
    (hfew : ((backTo cpos (starEach [e] X.env)).all (fun x => !x.1) && (backToKw cpos (keywordEach [] X.env)).all (fun x => x.1.isSome) && decide ([e].length + ([] : List Keyword).length + (if ([] : List Keyword).isEmpty then 0 else 1) < 30)) = true)
    (hline : (apos.endLine == cpos.line) = true) : PE X (.Call (.Attribute o "append" apos) [e] [] cpos) (tE Z rt W (appE mo me)) :=
  PE.imp (pe_bm PySem.F.plainAttrs_list PySem.F.slot_list_append PySem.F.type_list_append mt_append ho (pa_cons he pa_nil h1) hbase hfew hline h1 (by rfl)) fun σ H Q ⟨ρ, M, δ, r, s, q⟩ => by
    refine tE.thn (useEE (ρ0 := ρ) (H0 := H) r s Ext.refl q) fun v H1 ⟨ρ1, M1, d1, e1, r1, p1, q1⟩ => ?_
    cases d1 with
    | p x => exact q1.elim
    | clo x => exact q1.elim
    | clos x => exact q1.elim
    | loc n =>
      obtain ⟨a, ea, ha⟩ := p1
      obtain ⟨es, vs, g1, g2, g3⟩ := r1.num _ a ha
      subst ea
      refine ⟨.inl ⟨rfl, vs, .of g2⟩, ?_⟩
      refine tE.thn (useEE (ρ0 := ρ) (H0 := H) r1 (s.ext e1) e1 q1) fun w H2 ⟨ρ2, M2, d2, e2, r2, p2, q2⟩ => ?_
      cases d2 with
      | loc m => exact q2.elim
      | clo m => exact q2.elim
      | clos m => exact q2.elim
      | p y =>
        simp only at q2
        split at q2
        · rename_i ds hd
          split at q2
          · rename_i hz
            have hz := small_le hz
            have ha2 := e2.rho n a ha
            obtain ⟨es2, vs2, k1, k2, k3⟩ := r2.num _ a ha2
            rw [hd] at k1
            cases k1
            obtain ⟨r3, e3⟩ := r2.write (ds := ds ++ [y]) ha2 (k3.append (RepL.cons (show Rep Z H2 y w from p2) RepL.nil))
            refine ⟨a, vs2, w, rfl, rfl, k2, by rw [← k3.length, sizeLine_eq]; omega, ?_⟩
            exact q2 ρ2 .non _ ((e1.trans e2).trans e3) r3 (by show Rep Z _ _ _; unfold Rep; rfl)
          · exact q2.elim
        · exact q2.elim
/-! ### l[::-1] of a list -/
def revE (mk : Bool) (me : SE) : SE := fun rt δ M => (me rt δ M).bind fun x M1 => match lstOf x M1 with
  | some xs => finL mk xs.reverse M1
  | none => .bad
theorem RepL.reverse : ∀ {ds : List P} {xs : List V}, RepL Z H ds xs → RepL Z H ds.reverse xs.reverse
  | [], xs, h => by
    rw [h.unn]
    exact RepL.nil
  | d :: ds, xs, h => by
    obtain ⟨x, r, h1, h2, h3⟩ := h.unc
    subst h1
    rw [List.reverse_cons, List.reverse_cons]
    exact (RepL.reverse h3).append (RepL.cons h2 RepL.nil)
theorem pv_rev {mk : Bool} {e : Expr} {me : SE} {k : Nat} {p1 p2 p3 pos : Pos} (hK : X.K = Z.K) (he : PE X e (tE Z rt W me)) :
    PE X (.Subscript e (.Slice none none (some (.UnaryOp .USub (.Constant (.int 1) k p1) p2)) p3) pos) (tE Z rt W (revE mk me)) :=
  PE.imp (PE.lk (pe_revL he)) fun σ H Q ⟨ρ, M, δ, r, s, q⟩ => by
    refine tE.thn (useEE (ρ0 := ρ) (H0 := H) r s Ext.refl q) fun v H1 ⟨ρ1, M1, d1, e1, r1, p1, q1⟩ => ?_
    split at q1
    · rename_i xs hx
      obtain ⟨a, vs, ea, ha, la⟩ := lstOf_ok r1 p1 hx
      exact ⟨a, vs, ea, by rw [hK]; exact ha, fun p hp => finL_ok (EX := fun _ _ => False) r1 hp la.reverse ((PostE.noX finL_noX q1 : PostE _ _ (fun _ _ => False)).mono e1)⟩
    · exact q1.elim
/-! ### a, b, c = x, y, z -/
def parS3 (i j l : Nat) (as : SA) : SS := fun rt δ M => (as rt δ M).bindS δ fun ds M1 => match ds with
  | [x, y, z] => .nx (((δ.set i (some x)).set j (some y)).set l (some z)) M1
  | _ => .bad
theorem ps_parS3 {i j l : Nat} {x y z : Str} {a b c : Expr} {ma : SA} {pos px py pz pt : Pos} {kt k2 pt2} (hc : X.calm = true) (hN : X.N.Nodup) (hi : X.N[i]? = some x) (hj : X.N[j]? = some y) (hl : X.N[l]? = some z) (hij : i ≠ j) (hil : i ≠ l) (hjl : j ≠ l)
    (hx : X.env.scope.names.lookup x = some .local) (hy : X.env.scope.names.lookup y = some .local) (hz : X.env.scope.names.lookup z = some .local) (ha : PA X [a, b, c] (tA Z rt W ma))
    (hw : swappedStores [.Tuple [.Name x px, .Name y py, .Name z pz] kt pt] (.Tuple [a, b, c] k2 pt2) X.env = pure (some [x, y, z])) :
    PS X (.Assign [.Tuple [.Name x px, .Name y py, .Name z pz] kt pt] (.Tuple [a, b, c] k2 pt2) pos) (tS Z rt W (parS3 i j l ma)) :=
  PS.imp (ps_par3 hc hN hi hj hl hij hil hjl hx hy hz ha hw) fun E σ H ⟨ρ, M, δ, r, s, q⟩ => by
    refine tA.thn (useAS (ρ0 := ρ) (H0 := H) r s Ext.refl q) fun vs H1 ⟨ρ1, M1, ds, e1, r1, p1, q1⟩ => ?_
    split at q1
    · rename_i d1 d2 d3
      obtain ⟨v1, v2, v3, h1, h2, h3, h4⟩ := repDs3 p1
      subst h1
      exact ⟨v1, v2, v3, rfl, q1 ρ1 _ H1 e1 r1 ((((s.ext e1).set i h2).set j h3).set l h4)⟩
    · exact q1.elim
/-! ### repr -/
mutual
/-- what repr shows: ints below 2^1920 -/
def showP : P → Bool
  | .int i => Nat.blt i.natAbs.log2 1920
  | .tup ds => showPL ds
  | .lst ds => showPL ds
  | .dic _ _ => false
  | _ => true
def showPL : List P → Bool
  | [] => true
  | d :: ds => showP d && showPL ds
end
mutual
theorem showP_ok : ∀ (a : P), showP a = true → (toPy a).showable = true ∧ (toPy a).hasDict = false
  | .non, _ => ⟨rfl, rfl⟩
  | .bl _, _ => ⟨rfl, rfl⟩
  | .int i, h => by
    unfold showP at h
    have := Nat.le_of_ble_eq_true h
    simp only [toPy, PyData.showable, PyData.hasDict, decide_eq_true_eq]
    exact ⟨by omega, trivial⟩
  | .str _, _ => ⟨rfl, rfl⟩
  | .tup ds, h => by
    unfold showP at h
    simp only [toPy, PyData.showable, PyData.hasDict]
    exact showPL_ok ds h
  | .lst ds, h => by
    unfold showP at h
    simp only [toPy, PyData.showable, PyData.hasDict]
    exact showPL_ok ds h
  | .fn _, _ => ⟨rfl, rfl⟩
  | .ins _ _, _ => ⟨rfl, rfl⟩
  | .clo _, _ => ⟨rfl, rfl⟩
  | .exn _ _, _ => ⟨rfl, rfl⟩
  | .dic _ _, h => by unfold showP at h; cases h
theorem showPL_ok : ∀ (a : List P), showPL a = true → PyData.showableAll (toPyL a) = true ∧ PyData.hasDictAll (toPyL a) = false
  | [], _ => ⟨rfl, rfl⟩
  | d :: ds, h => by
    unfold showPL at h
    rw [Bool.and_eq_true] at h
    have h1 := showP_ok d h.1
    have h2 := showPL_ok ds h.2
    simp only [toPyL, PyData.showableAll, PyData.hasDictAll, h1.1, h1.2, h2.1, h2.2]
    exact ⟨rfl, rfl⟩
end
def shownP (a : P) : Str := (toPy a).shown
mutual
/-- no list in it -/
def noL : PyData → Bool
  | .list _ => false
  | .dict _ => false
  | .tuple xs => noLL xs
  | _ => true
def noLL : List PyData → Bool
  | [] => true
  | x :: xs => noL x && noLL xs
end
mutual
theorem reads_nil {h : Heap} : ∀ (d : PyData) {u : Value} {as : List Addr}, Reads h u d as → noL d = true → as = []
  | .none, _, _, r, _ => by cases r; rfl
  | .bool _, _, _, r, _ => by cases r; rfl
  | .int _, _, _, r, _ => by cases r; rfl
  | .str _, _, _, r, _ => by cases r; rfl
  | .list _, _, _, _, n => by simp [noL] at n
  | .dict _, _, _, _, n => by simp [noL] at n
  | .tuple xs, _, _, r, n => by
    cases r with
    | tuple h1 h2 h3 h4 => exact readsAll_nil xs h4 (by simpa [noL] using n)
theorem readsAll_nil {h : Heap} : ∀ (ds : List PyData) {us : List Value} {as : List Addr}, ReadsAll h us ds as → noLL ds = true → as = []
  | [], _, _, r, _ => by cases r; rfl
  | d :: ds, _, _, r, n => by
    simp only [noLL, Bool.and_eq_true] at n
    cases r with
    | cons r1 r2 => rw [reads_nil d r1 n.1, readsAll_nil ds r2 n.2]; rfl
end
theorem readsAll_len {h : Heap} : ∀ (ds : List PyData) {us : List Value} {as : List Addr}, ReadsAll h us ds as → ds.length = us.length
  | [], _, _, r => by cases r; rfl
  | d :: ds, _, _, r => by
    cases r with
    | cons r1 r2 => rw [List.length_cons, List.length_cons, readsAll_len ds r2]
/-- a value's repr is known: pd -/
def ShowQ (K : PySem.W.Frag) (H : Hp) (v : V) (pd : PyData) : Prop := pd.showable = true ∧ pd.depth ≤ 64 ∧
  ∀ (X : Cx) (pins : List (Addr × Obj)) (σ : L2.St) (s : Shared) (u : Value), X.K = K → Inv X pins σ H s → RelV v u → ∃ as, Reads s.heap u pd as ∧ (pd.hasDict = true → sysModules ∉ as)
theorem showQ_dp {K : PySem.W.Frag} {v : V} {pd : PyData} (h : Dp K H v pd) (h1 : pd.showable = true) (h2 : pd.hasDict = false) (h3 : pd.depth ≤ 64) : ShowQ K H v pd := ⟨h1, h3, fun X pins σ s u hK I r => by
  subst hK
  obtain ⟨as, q⟩ := Dp.reads I _ _ _ h r
  exact ⟨as, q, fun z => by rw [h2] at z; cases z⟩⟩
/-- dicts that repr shows here: keys ints and texts, the values no lists -/
def okDic (ks vs : List P) : Bool := Nat.ble ks.length 1000 && okNL 4 vs && noLL (toPyL vs) && (toPy (.dic ks vs)).showable && Nat.ble (toPy (.dic ks vs)).depth 64
theorem keyP_reads {w : World} {h : Heap} {k : Key} {u : Value} (e : keyIs k u = true) : Reads h u (toPy (keyP k)) [] := by
  rcases keyIs_shape e with ⟨i, t, rfl, rfl⟩ | ⟨x, t, rfl, rfl⟩
  · exact .int i t
  · have : toPy (keyP (.inr x)) = .str x := by simp [keyP, toPy]
    rw [this]
    exact .str x t
theorem pairs_reads {Pg : Program} {w : World} {h : Heap} : ∀ {es : List DictEntry} {kvs : List (Key × Value)}, Pairs (mixKind Pg w) es kvs → ReadsAll h (es.map (·.key)) (toPyL (kvs.map fun p => keyP p.1)) [] ∧ es.map (·.val) = kvs.map (·.2)
  | _, _, .nil => ⟨.nil, rfl⟩
  | _, _, .cons k1 k2 r => by
    obtain ⟨h1, h2⟩ := pairs_reads (h := h) r
    refine ⟨?_, by rw [List.map_cons, List.map_cons, k2, h2]⟩
    rw [List.map_cons, List.map_cons]
    unfold toPyL
    exact .cons (keyP_reads (w := w) k1) h1
theorem kv_vals : ∀ {kvs : List (Key × V)} {us : List (Key × Value)}, KV kvs us → (kvs.map fun p => keyP p.1) = (us.map fun p => keyP p.1) ∧ Vals (kvs.map (·.2)) (us.map (·.2)) := by
  intro kvs us r
  unfold KV at r
  induction r with
  | nil => exact ⟨rfl, .nil⟩
  | cons h t ih =>
    obtain ⟨i1, i2⟩ := ih
    refine ⟨?_, .cons h.2 i2⟩
    rw [List.map_cons, List.map_cons, h.1, i1]
theorem toPyL_len : ∀ (xs : List P), (toPyL xs).length = xs.length
  | [] => rfl
  | x :: xs => by unfold toPyL; rw [List.length_cons, List.length_cons, toPyL_len xs]
theorem showQ_dic {ks vs : List P} {v : V} (h : okDic ks vs = true) (r : Rep Z H (.dic ks vs) v) : ShowQ Z.K H v (toPy (.dic ks vs)) := by
  unfold okDic at h
  simp only [Bool.and_eq_true] at h
  obtain ⟨⟨⟨⟨h1, h2⟩, h3⟩, h4⟩, h5⟩ := h
  refine ⟨h4, Nat.le_of_ble_eq_true h5, fun X pins σ s u hK I ru => ?_⟩
  unfold Rep at r
  obtain ⟨a, o, kv, ev, ha, ek, hv⟩ := r
  subst ev
  obtain rfl : u = Value.ref a := ru
  obtain ⟨g, z, sysN, us, rk, o2, es, ep, g2, ex, dt, _, ps, _⟩ := I.hok a _ ha
  obtain ⟨k1, k2⟩ := kv_vals rk
  obtain ⟨q1, q2⟩ := pairs_reads (h := s.heap) ps
  have dp := repL_dp 4 vs _ h2 hv
  rw [← hK] at dp
  obtain ⟨as, q3⟩ := Dp.readsAll I _ _ _ dp k2
  have e0 := readsAll_nil _ q3 h3
  subst e0
  rw [← q2] at q3
  rw [← k1, ← ek] at q1
  have len1 : (toPyL ks).length = es.toList.length := by
    have := readsAll_len _ q1
    simpa using this
  have len2 : (toPyL vs).length = es.toList.length := by
    have := readsAll_len _ q3
    simpa using this
  refine ⟨_, .dict (kvs := (toPyL ks).zip (toPyL vs)) g2 ex.1 dt (as := []) (bs := []) ?_ ?_, fun _ hm => ?_⟩
  · rw [List.map_fst_zip (by omega)]
    exact q1
  · rw [List.map_snd_zip (by omega)]
    exact q3
  · have : sysModules = a := by simpa using hm
    rw [this] at sysN
    simp at sysN
/-- what repr shows -/
def okR (a : P) : Bool := (match a with
  | .dic ks vs => okDic ks vs
  | a => okN 60 a && showP a) && small (shownP a).length
def reprP (a : P) : Option (List Nat) := if okR a then some (shownP a).cps.toList else none
def reprD (ds : List D) (M : Mem) : RE := match ds with
  | [d] => (match pureD d M with
    | some a => (match reprP a with
      | some s => .ok (.p (.str s)) M
      | none => .bad)
    | none => .bad)
  | _ => .bad
theorem reprD_noX (ds : List D) (M : Mem) : NoX (reprD ds M) := fun e M' => by
  unfold reprD
  repeat' split
  all_goals exact fun z => by cases z
theorem okN_mono {n : Nat} : ∀ (a : P), okN n a = true → okN (n + 1) a = true := by
  have key : ∀ (n : Nat), (∀ (a : P), okN n a = true → okN (n + 1) a = true) ∧ ∀ (a : List P), okNL n a = true → okNL (n + 1) a = true := fun n => by
    induction n with
    | zero =>
      have h1 : ∀ (a : P), okN 0 a = true → okN 1 a = true := fun a => by cases a <;> simp [okN]
      refine ⟨h1, fun a => ?_⟩
      induction a with
      | nil => intro _; rfl
      | cons d ds ih =>
        intro h
        simp only [okNL, Bool.and_eq_true] at h ⊢
        exact ⟨h1 d h.1, ih h.2⟩
    | succ n ih =>
      have h1 : ∀ (a : P), okN (n + 1) a = true → okN (n + 2) a = true := fun a => by
        cases a <;> simp only [okN] <;> first | exact id | exact ih.2 _
      refine ⟨h1, fun a => ?_⟩
      induction a with
      | nil => intro _; rfl
      | cons d ds ih =>
        intro h
        simp only [okNL, Bool.and_eq_true] at h ⊢
        exact ⟨h1 d h.1, ih h.2⟩
  exact (key n).1
theorem showQ_of {d : D} {a : P} {v : V} (r : Rl Z ρ M H) (p : RepD Z ρ H d v) (ha : pureD d M = some a) (h : okR a = true) : ShowQ Z.K H v (toPy a) := by
  unfold okR at h
  rw [Bool.and_eq_true] at h
  replace h := h.1
  split at h
  · rename_i ks vs
    have hd : d = .p (.dic ks vs) := by
      unfold pureD at ha
      cases d with
      | p x => simp at ha; rw [ha]
      | loc n =>
        simp only at ha
        cases e : M.at_ n with
        | none => rw [e] at ha; simp at ha
        | some q => rw [e] at ha; simp at ha
      | clo j => simp at ha
      | clos js => simp at ha
    subst hd
    exact showQ_dic h p
  · rw [Bool.and_eq_true] at h
    obtain ⟨ok, sh⟩ := h
    have ok4 : okN 64 a = true := okN_mono a (okN_mono a (okN_mono a (okN_mono a ok)))
    have s1 := showP_ok a sh
    exact showQ_dp (pureD_dp r p ha ok4) s1.1 s1.2 (okN_lay 64 a ok4).2
theorem okR_small {a : P} (h : okR a = true) : (toPy a).shown.length ≤ 100000 := by
  unfold okR at h
  rw [Bool.and_eq_true] at h
  exact small_le h.2
theorem cr_reprD (hK : X.K = Z.K) (hg : X.A.guards = some []) (hu : X.A.units + 65 < cLine) : CallR X (.builtin "repr") (rDA Z reprD) := by
  intro pins s σ H xs us Q I rx ⟨ρ, M, ds, r, p, q⟩
  unfold reprD at q
  split at q
  · rename_i d
    split at q
    · rename_i a ha
      split at q
      · rename_i z hz
        obtain ⟨x, h1, h2⟩ := repDs1 p
        subst h1
        obtain ⟨u, hu1, hu2⟩ := vals1 rx
        subst hu1
        unfold reprP at hz
        split at hz
        · rename_i hc
          cases hz
          obtain ⟨sh, dep, rd⟩ := showQ_of r h2 ha hc
          obtain ⟨as, rd, hsm⟩ := rd X pins σ s u hK I hu2
          have s2 := okR_small hc
          have s3 : (toPy a).shown.length ≤ sizeLine := by rw [sizeLine_eq]; omega
          have fin : ∀ (h' : Heap) (t : Tok) (tk : Nat), (∀ b o, s.heap.get? b = some o → h'.get? b = some o) → EP X pins σ Q (.str (toPy a).shown t) { s with heap := h', toks := tk } := fun h' t tk k =>
            ⟨.str (shownP a), H, I.kept k, ⟨t, rfl⟩, by
              have := out_str (EX := fun _ _ => False) r q
              simpa using this⟩
          generalize hd : toPy a = pd at rd sh hsm s3 dep fin
          cases rd with
          | none => exact PySem.P.repr_of_none (fin _ _ _ fun _ _ e => e)
          | bool b => exact PySem.P.repr_of_bool (fin _ _ _ fun _ _ e => e)
          | int i t => exact PySem.P.repr_of_int (by simpa [PyData.showable] using sh) (fin _ _ _ fun _ _ e => e)
          | str y t => exact PySem.P.repr_of_str (fin _ _ _ fun _ _ e => e) (by simpa only [PyData.shown] using s3)
          | list h1 h2 h3 h4 => exact repr_of_reads' (.list h1 h2 h3 h4) sh hsm hg (by omega) (fun _ _ e => e) (fun h' t tk k => fin h' t tk k) s3
          | tuple h1 h2 h3 h4 => exact repr_of_reads' (.tuple h1 h2 h3 h4) sh hsm hg (by omega) (fun _ _ e => e) (fun h' t tk k => fin h' t tk k) s3
          | dict h1 h2 h3 h4 h5 => exact repr_of_reads' (.dict h1 h2 h3 h4 h5) sh hsm hg (by omega) (fun _ _ e => e) (fun h' t tk k => fin h' t tk k) s3
        · cases hz
      · exact q.elim
    · exact q.elim
  · exact q.elim
end
end FW
/-! FwM: defs and their calls. -/
namespace FW
open PySem PySem.Spec PyProof.Rows L2

/-- room, and no repr is under way -/
structure RoomG (k : Nat) (A : Around) : Prop where
  r : Room k A
  g : A.guards = some []
theorem RoomG.deeper {k : Nat} {A : Around} (r : RoomG (k + 1) A) (env : Env) : RoomG k (A.deeper env) := ⟨r.r.deeper env, r.g⟩
theorem RoomG.mono {j k : Nat} {A : Around} (r : RoomG k A) (h : j ≤ k) : RoomG j A := ⟨r.r.mono h, r.g⟩
/-- a def's promise, with that room -/
structure FnG (P : Program) (w : World) (K : PySem.W.Frag) (mg : Str → Option Value) (base : Heap) (k : Nat) (f : Addr) (fd : FuncData) (ps : List Str) (sp : Sp) : Prop where
  len : ∀ vs H Q E, sp vs H Q E → vs.length = ps.length
  run : ∀ (A : Around) (outer : List Env) (s : Shared) (H : Hp) (args : Args) (us : List Value) (vs : List V) (Q : VK) (E : XK), RoomG k A → Env0 P w K mg base A outer s H → BindsTo s fd args (ps.zip us) → Vals vs us → sp vs H Q E →
    codeAny (model P w) A (.call (.ref f) args) (CR (L2.CX P w) outer P w H s Q E) s

/-- what a call raises, by data -/
def stdK (Z : Am) (E : XK) (ρ : Rho) (H : Hp) : Exn → Mem → Prop := fun x M' => ∀ ρ' cls dx H', Ext ρ H ρ' H' → Rl Z ρ' M' H' → ExR Z H' x cls dx → E cls dx H'
/-- a def's promise by what its call computes -/
def spD (Z : Am) (n : Nat) (call : List D → Mem → RE) : Sp := fun vs H Q E => vs.length = n ∧ ∃ ρ M ds, Rl Z ρ M H ∧ RepDs Z ρ H ds vs ∧ PostE (call ds M) (stdO Z ρ H Q) (stdK Z E ρ H)
/-- a body run as a call: N slots -/
def RS.out (r : RS) : RE := match r with
  | .nx _ M => .ok (.p .non) M
  | .rt (.p x) M => .ok (.p x) M
  | .rt (.loc n) M => .ok (.loc n) M
  | .exc x _ M => .exc x M
  | _ => .bad
/-- no lambdas -/
def plainD : List D → Bool
  | [] => true
  | .p _ :: r => plainD r
  | .loc _ :: r => plainD r
  | _ => false
def runS (N : Nat) (m : SS) (rt : Rt) (ds : List D) (M : Mem) : RE := (m rt (ds.map some ++ List.replicate (N - ds.length) none) M).out
section
variable {Z : Am} {rt : Rt} {W : WX} {X : Cx} {ρ ρ0 ρ' : Rho} {M : Mem} {H H0 H' : Hp} {δ : Slots} {σ : L2.St} {Q Q' : VK}
theorem slO_start {N : List Str} {ds : List D} {vs : List V} (h : RepDs Z ρ H ds vs) : SlO Z ρ H (ds.map some ++ List.replicate (N.length - ds.length) none) (L2.start N vs) := by
  have hl := h.length
  refine ⟨by unfold L2.start; simp only [List.length_append, List.length_map, List.length_replicate]; rw [hl], fun i d hd => ?_⟩
  by_cases hi : i < ds.length
  · rw [List.getElem?_append_left (by simpa using hi), List.getElem?_map] at hd
    cases e : ds[i]? with
    | none => rw [e] at hd; cases hd
    | some d0 =>
      rw [e] at hd
      cases hd
      obtain ⟨x, h1, h2⟩ := h.get e
      refine ⟨x, ?_, h2⟩
      unfold L2.start
      rw [List.getElem?_append_left (by rw [List.length_map]; omega), List.getElem?_map, h1]
      rfl
  · rw [List.getElem?_append_right (by simpa using hi), List.getElem?_replicate] at hd
    split at hd <;> cases hd
/-- the rule for a def: its body's reading, at each entry -/
theorem fnG_of {P : Program} {w : World} {K : PySem.W.Frag} {mg : Str → Option Value} {base : Heap} {k : Nat} {f : Addr} {x qual : Str} {params : Arguments} {body : List Stmt} {scope : Scope} {dvs : List V} {kws : List (Str × V)} {fd : FuncData} {N ps : List Str} {m : SS}
    (F : FunD K x qual params body scope dvs kws f fd) (S : FnScope N ps scope)
    (hbody : ∀ (cdv : Value) (A : Around) (outer : List Env) (s : Shared) (H : Hp) (E : XK), RoomG k (A.deeper (envOfC qual scope s.heap.objs.size f cdv)) →
      PSs (cxOf (L2.CX P w) P w K mg base N qual scope f cdv A outer s H E) body (tS Z rt (fun cls d _ H' => E cls d H') m)) :
    FnG P w K mg base (k + 1) f fd ps (spD Z ps.length fun ds M => if plainD ds then runS N.length m rt ds M else .bad) := by
  obtain ⟨oc, od, dV, kV, doc, pm, an, cdv, ct, osl, rfl, lk, hcd, _, _⟩ := F.ex
  refine ⟨fun vs H Q E h => h.1, fun A outer s H args us vs Q E hr e0 hb r hsp => ?_⟩
  obtain ⟨hl, ρ, M, ds, r0, p0, q0⟩ := hsp
  replace q0 : PostE (if plainD ds then runS N.length m rt ds M else .bad) (stdO Z ρ H Q) (stdK Z E ρ H) := q0
  have hp : plainD ds = true := by
    cases hc : plainD ds with
    | true => rfl
    | false =>
      rw [hc, if_neg Bool.false_ne_true] at q0
      exact q0.elim
  rw [hp, if_pos rfl] at q0
  have KX : K.In s.heap := e0.mod.kin.keeps fun b o e => (e0.bs b o e).1
  have lim : s.heap.NoLimit := e0.mod.nolimit.keeps fun b o e => (e0.bs b o e).1
  have hkind : ∀ y ∈ ps.zip us, scope.names.lookup y.1 = some .local ∨ (scope.names.lookup y.1 = some .cell ∧ ((cellsFrom (s.heap.objs.size + 1) scope.names []).lookup y.1).isSome = true) := fun ⟨n, v⟩ hy => by
    rcases S.par n (List.of_mem_zip hy).1 with q | q
    · exact .inl q
    · exact .inr ⟨q, PySem.W.cellsFrom_some _ _ _ (.inl q)⟩
  refine codeAny_call_function hr.r.depth (KX _ _ lk) rfl S.co S.gen rfl (PySem.W.codeRec_of KX hcd) (hb _ _ _ _ ?_)
  refine wpAny_newFunctionEnv_cells S.kind hkind fun env he s1 x => ?_
  subst he
  refine ⟨lim.keeps x.toInCall.keep, codeAny_func ?_⟩
  have ht := hbody cdv A outer s H E (hr.deeper _)
  have I : Inv (cxOf (L2.CX P w) P w K mg base N qual scope f cdv A outer s H E) [] (L2.start N vs) H s1 := inv_start S hr.r.hd e0 hl r x
  refine wpAny_mono (ht.run [] s1 (L2.start N vs) H { nx := fun _ H' => Q .non H', rt := Q } I ⟨ρ, M, _, r0, slO_start p0, ?_⟩) (fun fl s' hs => ?_) fun e s' hs => hs
  · unfold runS at q0
    revert q0
    cases m rt (ds.map some ++ List.replicate (N.length - ds.length) none) M with
    | nx δ M1 => exact fun q ρ' σ' H' e r s => q ρ' .non H' e r (by show Rep Z _ _ _; unfold Rep; rfl)
    | rt d M1 =>
      cases d with
      | p y => exact id
      | loc n => exact id
      | clo j => exact fun q => q.elim
      | clos js => exact fun q => q.elim
    | bk δ M1 => exact fun q => q.elim
    | ct δ M1 => exact fun q => q.elim
    | exc x δ M1 => exact fun q ρ' σ' cls dx H' e r s ex => q ρ' cls dx H' e r ex
    | bad => exact fun q => q.elim
  · have fin : ∀ {σ' : L2.St} {H' : Hp} {v : V} {u : Value}, Inv (cxOf (L2.CX P w) P w K mg base N qual scope f cdv A outer s H E) [] σ' H' s' → RelV v u → Q v H' → CE outer P w H s Q u s' :=
      fun {σ' H' v u} J rv q => ⟨v, H', J.os, J.bare, J.base, J.hok, rv, q⟩
    cases fl with
    | ret u =>
      obtain ⟨v, σ', H', J, rv, q⟩ := hs
      exact fin J rv q
    | next =>
      obtain ⟨σ', H', J, q⟩ := hs
      exact fin (v := V.non) (u := Value.none) J rfl q
    | brk =>
      obtain ⟨_, _, _, q⟩ := hs
      exact False.elim q
    | cont =>
      obtain ⟨_, _, _, q⟩ := hs
      exact False.elim q
/-! ### a call -/
/-- exactly one list among the arguments: its number; the arguments as seen from an arena in which it is number 0 -/
def oneL : List D → Option (Nat × List D)
  | .loc n :: r => (match allP r with
    | some xs => some (n, .loc 0 :: xs.map .p)
    | none => none)
  | .p x :: r => (match oneL r with
    | some (n, ds) => some (n, .p x :: ds)
    | none => none)
  | _ => none
def arena1 (c : List P) : Mem := ⟨1, fun m => if m == 0 then some c else none⟩
def callD (own : Bool) (k : Nat) (dfl : List P) (rt : Rt) (ds : List D) (M : Mem) : RE := match allP ds with
  | some xs => (match rt.call k ((xs ++ dfl).map .p) Mem.empty with
    | .ok (.p y) _ => .ok (.p y) M
    | .ok (.loc m) M1 => if own then .bad else (match M1.at_ m with
      | some c => .ok (.loc M.nx) (M.new c)
      | none => .bad)
    | .exc x _ => .exc x M
    | _ => .bad)
  | none => if own then .bad else (match oneL ds with
    | some (n, es) => (match M.at_ n with
      | some c => (match rt.call k (es ++ dfl.map .p) (arena1 c) with
        | .ok (.p y) M1 => (match M1.at_ 0 with
          | some c' => .ok (.p y) (M.put n c')
          | none => .bad)
        | .exc x M1 => (match M1.at_ 0 with
          | some c' => .exc x (M.put n c')
          | none => .bad)
        | _ => .bad)
      | none => .bad)
    | none => rt.call k (ds ++ dfl.map .p) M)
def callF (own : Bool) (k : Nat) (dfl : List P) (as : SA) : SE := fun rt δ M => (as rt δ M).bind fun ds M1 => callD own k dfl rt ds M1
def nilArgs : SA := fun _ _ M => .ok [] M
theorem repL_D {es : List P} {us : List V} (g : RepL Z H es us) : RepDs Z ρ H (es.map .p) us := by
  induction es generalizing us with
  | nil =>
    rw [g.unn]
    exact RepDs.nil
  | cons e es ih =>
    obtain ⟨x, r, h1, h2, h3⟩ := g.unc
    subst h1
    exact RepDs.cons (show RepD Z ρ H (.p e) x from h2) (ih h3)
theorem repDs_append {ds : List D} {es : List P} {vs us : List V} (h : RepDs Z ρ H ds vs) (g : ∀ H, RepL Z H es us) : RepDs Z ρ H (ds ++ es.map .p) (vs ++ us) := h.append (repL_D (g H))
theorem exR_mono {x : Exn} {cls : Value} {dx : Option Addr} (e : Ext ρ H ρ' H') (h : ExR Z H x cls dx) : ExR Z H' x cls dx := by
  obtain ⟨A, h1, h2, h3⟩ := h
  refine ⟨A, h1, h2, ?_⟩
  revert h3
  cases x.d with
  | none => exact id
  | some d =>
    rintro ⟨dd, v, nm, k1, k2, k3, k4⟩
    exact ⟨dd, v, nm, k1, e.obj k2 (fun _ z => by cases z) (fun _ z => by cases z), k3, k4.ext e⟩
theorem oneL_ok : ∀ {ds : List D} {n : Nat} {es : List D} {vs : List V} {ρ0 : Rho}, oneL ds = some (n, es) → RepDs Z ρ H ds vs → ρ0 0 = ρ n → RepDs Z ρ0 H es vs
  | [], _, _, _, _, h, _, _ => by cases h
  | .loc m :: r, n, es, vs, ρ0, h, p, e0 => by
    unfold oneL at h
    split at h
    · rename_i xs hx
      cases h
      obtain ⟨v, us, ev, ⟨a, ea, ha⟩, p2⟩ := p
      exact ⟨v, us, ev, ⟨a, ea, e0.trans ha⟩, repL_D (allP_ok hx p2)⟩
    · cases h
  | .p x :: r, n, es, vs, ρ0, h, p, e0 => by
    unfold oneL at h
    split at h
    · rename_i n' ds' hx
      cases h
      obtain ⟨v, us, ev, p1, p2⟩ := p
      exact ⟨v, us, ev, p1, oneL_ok hx p2 e0⟩
    · cases h
  | .clo _ :: _, _, _, _, _, h, _, _ => by cases h
  | .clos _ :: _, _, _, _, _, h, _, _ => by cases h
theorem rl_arena1 {n : Nat} {c : List P} (r : Rl Z ρ M H) (hc : M.at_ n = some c) : Rl Z (fun i => if i == 0 then ρ n else none) (arena1 c) H := by
  have at1 : ∀ {i : Nat} {a : Addr}, (fun i => if i == 0 then ρ n else none) i = some a → i = 0 ∧ ρ n = some a := fun {i a} q => by
    by_cases hi : i = 0
    · subst hi
      exact ⟨rfl, by simpa using q⟩
    · simp [hi] at q
  have at2 : ∀ {i : Nat} {ds : List P}, (arena1 c).at_ i = some ds → i = 0 ∧ ds = c := fun {i ds} q => by
    by_cases hi : i = 0
    · subst hi
      exact ⟨rfl, by simpa [arena1] using q.symm⟩
    · simp [arena1, hi] at q
  refine ⟨fun i a q => ?_, fun i ds q => ?_, fun i j a q1 q2 => ?_, fun i ds q => ?_, r.tabs⟩
  · obtain ⟨h1, h2⟩ := at1 q
    subst h1
    obtain ⟨ds, xs, g1, g2, g3⟩ := r.num n a h2
    rw [hc] at g1
    cases g1
    exact ⟨c, xs, by simp [arena1], g2, g3⟩
  · obtain ⟨h1, h2⟩ := at2 q
    subst h1
    obtain ⟨a, ha⟩ := r.has n c hc
    exact ⟨a, by simpa using ha⟩
  · rw [(at1 q1).1, (at1 q2).1]
  · rw [(at2 q).1]
    show 0 < 1
    omega
/-- back from such an arena -/
theorem rl_back1 {n : Nat} {c c' : List P} {ρ1 : Rho} {M1 : Mem} (r : Rl Z ρ M H) (hc : M.at_ n = some c) (r1 : Rl Z ρ1 M1 H') (e : Ext (fun i => if i == 0 then ρ n else none) H ρ1 H') (h1 : M1.at_ 0 = some c') : Rl Z ρ (M.put n c') H' ∧ Ext ρ H ρ H' := by
  obtain ⟨a, ha⟩ := r.has n c hc
  have far : ∀ {b : Addr}, b ≠ a → ∀ i, (fun i => if i == 0 then ρ n else none) i ≠ some b := fun {b} hb i q => by
    by_cases hi : i = 0
    · subst hi
      have q : ρ n = some b := by simpa using q
      rw [ha] at q
      exact hb (Option.some.inj q).symm
    · simp [hi] at q
  have e2 : Ext ρ H ρ H' := ⟨fun _ _ h => h, fun _ _ h => .inl h, e.there, fun b o h ht hl => e.keep b o h ht fun hx i q => by
    by_cases hb : b = a
    · exact hl hx n (by rw [hb]; exact ha)
    · exact far hb i q⟩
  refine ⟨⟨fun m b q => ?_, fun m es q => ?_, r.inj, fun m es q => ?_, r1.tabs⟩, e2⟩
  · by_cases hm : m = n
    · subst hm
      rw [ha] at q
      cases q
      obtain ⟨ds, xs, g1, g2, g3⟩ := r1.num 0 a (e.rho 0 a (by simpa using ha))
      rw [h1] at g1
      cases g1
      exact ⟨c', xs, by simp [Mem.put], g2, g3⟩
    · obtain ⟨ds, xs, g1, g2, g3⟩ := r.num m b q
      have hb : b ≠ a := fun z => hm (r.inj m n b q (by rw [z]; exact ha))
      exact ⟨ds, xs, by simp [Mem.put, hm, g1], e.keep b _ g2 (fun _ z => by cases z) (fun _ => far hb), g3.ext e2⟩
  · by_cases hm : m = n
    · exact ⟨a, by rw [hm]; exact ha⟩
    · exact r.has m es (by simpa [Mem.put, hm] using q)
  · by_cases hm : m = n
    · rw [hm]
      exact r.lt n c hc
    · exact r.lt m es (by simpa [Mem.put, hm] using q)
/-- a list made in an arena gets a number -/
theorem rl_new1 {m : Nat} {a : Addr} {c : List P} {ρ1 : Rho} {M1 : Mem} (r : Rl Z ρ M H) (r1 : Rl Z ρ1 M1 H') (e : Ext (fun _ => none) H ρ1 H') (h1 : M1.at_ m = some c) (ha : ρ1 m = some a) :
    Rl Z (fun i => if i == M.nx then some a else ρ i) (M.new c) H' ∧ Ext ρ H (fun i => if i == M.nx then some a else ρ i) H' := by
  have hn : H a = none := (e.new m a ha).elim (fun z => by cases z) id
  have lt : ∀ {i b}, ρ i = some b → i < M.nx := fun {i b} q => by
    obtain ⟨ds, xs, g1, _⟩ := r.num i b q
    exact r.lt _ _ g1
  have e2 : Ext ρ H (fun i => if i == M.nx then some a else ρ i) H' := ⟨fun i b q => by
    have := lt q
    simp [Nat.ne_of_lt this, q], fun i b q => by
    by_cases hi : i = M.nx
    · simp [hi] at q
      rw [← q]
      exact .inr hn
    · simp [hi] at q
      exact .inl q, e.there, fun b o h ht _ => e.keep b o h ht fun _ _ q => by cases q⟩
  refine ⟨⟨fun i b q => ?_, fun i ds q => ?_, fun i j b q1 q2 => ?_, fun i ds q => ?_, r1.tabs⟩, e2⟩
  · by_cases hi : i = M.nx
    · simp [hi] at q
      subst q
      obtain ⟨ds, xs, g1, g2, g3⟩ := r1.num m a ha
      rw [h1] at g1
      cases g1
      exact ⟨c, xs, by simp [Mem.new, hi], g2, g3⟩
    · simp [hi] at q
      obtain ⟨ds, xs, g1, g2, g3⟩ := r.num i b q
      exact ⟨ds, xs, by simp [Mem.new, hi, g1], e.keep b _ g2 (fun _ z => by cases z) (fun _ _ z => by cases z), g3.ext e2⟩
  · by_cases hi : i = M.nx
    · exact ⟨a, by simp [hi]⟩
    · obtain ⟨b, hb⟩ := r.has i ds (by simpa [Mem.new, hi] using q)
      exact ⟨b, by simp [hi, hb]⟩
  · have nota : ∀ {i}, ρ i = some b → b ≠ a := fun {i} q z => by
      obtain ⟨ds, xs, _, g2, _⟩ := r.num i b q
      rw [z, hn] at g2
      cases g2
    by_cases hi : i = M.nx
    · by_cases hj : j = M.nx
      · rw [hi, hj]
      · simp [hi] at q1
        simp [hj] at q2
        exact absurd q1.symm (nota q2)
    · by_cases hj : j = M.nx
      · simp [hi] at q1
        simp [hj] at q2
        exact absurd q2.symm (nota q1)
      · simp [hi] at q1
        simp [hj] at q2
        exact r.inj i j b q1 q2
  · show i < M.nx + 1
    by_cases hi : i = M.nx
    · omega
    · have := r.lt i ds (by simpa [Mem.new, hi] using q)
      omega
/-- what a call of that def asks -/
theorem sp_of {own : Bool} {k n : Nat} {dfl : List P} {dvs : List V} {ds : List D} {vs : List V} {OK : D → Mem → Prop} (hd : ∀ H, RepL Z H dfl dvs) (hn : vs.length + dvs.length = n) (r : Rl Z ρ M H) (p : RepDs Z ρ H ds vs) (e : Ext ρ0 H0 ρ H)
    (h : PostE (callD own k dfl rt ds M) (stdO Z ρ0 H0 Q) (stdX Z W ρ0 H0 σ)) : spD Z n (rt.call k) (vs ++ dvs) H Q (WE W σ) := by
  refine ⟨by rw [List.length_append, hn], ?_⟩
  unfold callD at h
  split at h
  · rename_i xs hx
    have l := allP_ok hx p
    refine ⟨fun _ => none, Mem.empty, (xs ++ dfl).map .p, r.arena, repL_D (l.append (hd H)), ?_⟩
    revert h
    cases rt.call k ((xs ++ dfl).map .p) Mem.empty with
    | ok d M1 =>
      cases d with
      | p y =>
        intro h ρ1 v H1 e1 r1 p1
        obtain ⟨r2, e2⟩ := r.back r1 e1
        exact h ρ v H1 (e.trans e2) r2 p1
      | loc m =>
        intro h
        simp only at h
        split at h
        · exact h.elim
        · split at h
          · rename_i c hc
            intro ρ1 v H1 e1 r1 ⟨a, ev, ha⟩
            obtain ⟨r2, e2⟩ := rl_new1 r r1 e1 hc ha
            exact h _ v H1 (e.trans e2) r2 ⟨a, ev, by simp⟩
          · exact h.elim
      | clo j => exact fun h => h.elim
      | clos js => exact fun h => h.elim
    | exc x M1 =>
      intro h ρ1 cls dx H1 e1 r1 x1
      obtain ⟨r2, e2⟩ := r.back r1 e1
      exact h ρ cls dx H1 (e.trans e2) r2 x1
    | bad => exact fun h => h.elim
  · split at h
    · exact h.elim
    · split at h
      · rename_i m es hm
        split at h
        · rename_i c hc
          refine ⟨_, arena1 c, es ++ dfl.map .p, rl_arena1 r hc, repDs_append (oneL_ok hm p (by simp)) hd, ?_⟩
          revert h
          cases rt.call k (es ++ dfl.map .p) (arena1 c) with
          | ok d M1 =>
            cases d with
            | p y =>
              intro h
              simp only at h
              split at h
              · rename_i c' hc'
                intro ρ1 v H1 e1 r1 p1
                obtain ⟨r2, e2⟩ := rl_back1 r hc r1 e1 hc'
                exact h ρ v H1 (e.trans e2) r2 p1
              · exact h.elim
            | loc m => exact fun h => h.elim
            | clo j => exact fun h => h.elim
            | clos js => exact fun h => h.elim
          | exc x M1 =>
            intro h
            simp only at h
            split at h
            · rename_i c' hc'
              intro ρ1 cls dx H1 e1 r1 x1
              obtain ⟨r2, e2⟩ := rl_back1 r hc r1 e1 hc'
              exact h ρ cls dx H1 (e.trans e2) r2 x1
            · exact h.elim
          | bad => exact fun h => h.elim
        · exact h.elim
      · refine ⟨ρ, M, ds ++ dfl.map .p, r, repDs_append p hd, ?_⟩
        revert h
        cases rt.call k (ds ++ dfl.map .p) M with
        | ok d M1 => exact fun h ρ1 v H1 e1 r1 p1 => h ρ1 v H1 (e.trans e1) r1 p1
        | exc x M1 => exact fun h ρ1 cls dx H1 e1 r1 p1 => h ρ1 cls dx H1 (e.trans e1) r1 p1
        | bad => exact id
variable {k j f : Nat} {fd : FuncData} {ps : List Str} {fA : Addr}
theorem run_fnG {pins : List (Addr × Obj)} {s : Shared} {us : List Value} {vs dvs : List V} {ds : List Value} {sp : Sp} (F : FnG X.prog X.w X.K X.mg X.base k fA fd ps sp) (hr : RoomG k X.A) (tk : Takes X W) (hb : Binds X.K fd ps ds) (hd : Vals dvs ds)
    (I : Inv X pins σ H s) (r : Vals vs us) (h : sp (vs ++ dvs) H Q (WE W σ)) : wpAny (model X.prog X.w) X.A (call (.ref fA) us) (EP X pins σ Q) X.xe s := by
  have r2 : Vals (vs ++ dvs) (us ++ ds) := r.append hd
  have hl : (us ++ ds).length = ps.length := by rw [← r2.length]; exact F.len _ _ _ _ h
  refine wpAny_call (codeAny_mono (F.run X.A X.stack s H ⟨us, []⟩ (us ++ ds) (vs ++ dvs) Q (WE W σ) hr I.env0 (hb s us I.kIn hl) r2 h) fun r s' hq => ?_)
  cases r with
  | error e => exact passAt tk σ pins H s e s' I hq
  | ok fl =>
    cases fl with
    | ret u => exact I.after hq
    | next => exact False.elim hq
    | brk => exact False.elim hq
    | cont => exact False.elim hq
theorem pv_call {own : Bool} {x : Str} {p pos : Pos} {e : Expr} {es : List Expr} {mas : SA} {dfl : List P} {dvs : List V} {ds : List Value} (F : FnG X.prog X.w X.K X.mg X.base k fA fd ps (spD Z ps.length (rt.call f))) (hr : RoomG k X.A) (tk : Takes X W) (hg : Gl X x) (hm : X.mg x = some (.ref fA)) (hk : PySem.W.keepIn X.K (.ref fA) = true)
    (hb : Binds X.K fd ps ds) (hd : Vals dvs ds) (hR : ∀ H, RepL Z H dfl dvs) (ha : PA X (e :: es) (tA Z rt W mas)) (hn : (e :: es).length + dvs.length = ps.length)
    (hdb : (x == ("__debug__" : Str)) = false) (he : starEach (e :: es) X.env = (false, eval e X.env) :: starEach es X.env) (hpl : (backTo pos (starEach es X.env)).any (·.1) = false)
    (hlen : ∀ rt δ M ds M1, mas rt δ M = .ok ds M1 → ds.length = (e :: es).length) :
    PE X (.Call (.Name x p) (e :: es) [] pos) (tE Z rt W (callF own f dfl mas)) := by
  refine ⟨fun pins s σ H Q I h => ?_⟩
  refine wpAny_Call_Name_kw (ld_glob I hg hm ?_ hdb)
  obtain ⟨ρ, M, δ, r, sl, q⟩ := h
  have hA : tA Z rt W mas σ H (fun vs H1 => spD Z ps.length (rt.call f) (vs ++ dvs) H1 Q (WE W σ)) := by
    refine ⟨ρ, M, δ, r, sl, ?_⟩
    unfold callF at q
    cases hm : mas rt δ M with
    | ok ds M1 =>
      rw [hm] at q
      intro ρ1 vs H1 e1 r1 p1
      exact sp_of (OK := fun _ _ => True) hR (by rw [← p1.length, hlen _ _ _ _ _ hm, hn]) r1 p1 e1 q
    | exc x M1 =>
      rw [hm] at q
      exact q
    | bad =>
      rw [hm] at q
      exact q
  refine PySem.W.callWith_K (h₀ := X.base) I.ok.mod.kin hk (thn (ha.run pos pins s σ H _ I hA) fun us s1 ⟨vs, H1, I1, r1, q1⟩ => ⟨I1.kIn, ?_⟩) he hpl
  exact run_fnG F hr tk hb hd I1 r1 q1
theorem pv_call0 {own : Bool} {x : Str} {p pos : Pos} {dfl : List P} {dvs : List V} {ds : List Value} (F : FnG X.prog X.w X.K X.mg X.base k fA fd ps (spD Z ps.length (rt.call f))) (hr : RoomG k X.A) (tk : Takes X W) (hg : Gl X x) (hm : X.mg x = some (.ref fA)) (hk : PySem.W.keepIn X.K (.ref fA) = true)
    (hb : Binds X.K fd ps ds) (hd : Vals dvs ds) (hR : ∀ H, RepL Z H dfl dvs) (hn : dvs.length = ps.length) (hdb : (x == ("__debug__" : Str)) = false) :
    PE X (.Call (.Name x p) [] [] pos) (tE Z rt W (callF own f dfl nilArgs)) := by
  refine ⟨fun pins s σ H Q I h => ?_⟩
  refine wpAny_Call_Name_kw (ld_glob I hg hm ?_ hdb)
  obtain ⟨ρ, M, δ, r, sl, q⟩ := h
  exact PySem.W.callWith_K0 I.kIn hk (run_fnG (us := []) F hr tk hb hd I .nil (sp_of (OK := fun _ _ => True) hR (by simpa using hn) r RepDs.nil Ext.refl q))
end
/-! ### the runtime -/
/-- the defs by number: how many slots, the body -/
abbrev Tbl := Nat → Option (Nat × SS)
def rtN (T : Tbl) (L : Nat) : Nat → Rt
  | 0 => ⟨fun _ _ _ => .bad, L⟩
  | n + 1 => ⟨fun k ds M => match T k with
    | some (N, m) => if plainD ds then runS N m (rtN T L n) ds M else .bad
    | none => .bad, L⟩
end FW
/-! FwN: the law's end (no tables). -/
namespace FW
open PySem PySem.Spec PyProof.Rows L2

theorem cx_false {P : Program} {w : World} {H : Hp} {s : Shared} {e : Value} {s' : Shared} (h : L2.CX P w [] H s (fun _ _ _ => False) e s') : False := by
  obtain ⟨_, _, _, _, _, _, _, _, _, _, _, _, z⟩ := h
  exact z
/-- the script as data -/
def scrD (ns : List Int) : P := .lst (ns.map .int)
theorem repL_ints {Z : Am} {H : Hp} : ∀ (ns : List Int), RepL Z H (ns.map .int) (ns.map V.int)
  | [] => RepL.nil
  | n :: ns => RepL.cons (by unfold Rep; rfl) (repL_ints ns)
/-- the law's call at the heap behind the top -/
theorem law_callG {Pg : Program} {w : World} {Z : Am} {mg mb : Str → Option Value} {k : Nat} {fa a : Addr} {fd : FuncData} {x : Str} {call : List D → Mem → RE} {s₁ : Shared} {vs : List Value} {ns : List Int}
    (KX : Z.K.In s₁.heap) (hns : s₁.heap.Ns mainGlobals mg) (hb : s₁.heap.Ns builtinsNs mb) (hbb : ∀ x : Str, x ≠ "__name__" → mb x = bootBuiltins x) (hlim : s₁.heap.NoLimit) (hg : s₁.gens = #[])
    (ha : s₁.heap.get? a = some { cls := .type "list", data := .seq vs.toArray }) (hi : IntsAre vs ns) (hl : ns.length ≤ sizeLine) (hr : Room k callerA) (hT : Z.T = [])
    (F : ∀ base : Heap, Z.K.In base → base.Ns mainGlobals mg → FnG Pg w Z.K mg base k fa fd [x] (spD Z 1 call)) (hbind : ∀ (s : Shared) (u : Value), BindsTo s fd ⟨[u], []⟩ [(x, u)])
    (hlaw : ∃ M, call [.p (scrD ns)] Mem.empty = .ok (.p (.bl true)) M) :
    codeAny (model Pg w) callerA (.call (.ref fa) ⟨[.ref a], []⟩) (fun r s' => r = .ok (.ret (.bool true)) ∧ OldK s₁.heap s'.heap ∧ s'.os = s₁.os ∧ AllBare s'.gens) s₁ := by
  have rv := vals_ints hi
  have lenV := hi.length
  have core : ∀ H : Hp, Only H → Sq0 Z.K H a (ns.map V.int) → HOk Pg w H s₁.heap → (∀ b, H b ≠ none → b = a) → (H a ≠ none → Z.K.lookup a = none) →
      codeAny (model Pg w) callerA (.call (.ref fa) ⟨[.ref a], []⟩) (fun r s' => r = .ok (.ret (.bool true)) ∧ OldK s₁.heap s'.heap ∧ s'.os = s₁.os ∧ AllBare s'.gens) s₁ := by
    intro H hO hS hok hA hK
    have base_of : ∀ {b : Addr} {o : Obj}, s₁.heap.get? b = some o → H b = none → (hidT s₁.heap H).get? b = some o := fun e n => hidT_get e n
    have at_a : ∀ {b : Addr}, H b ≠ none → b = a := fun {b} h => hA b h
    have noA : ∀ {b : Addr} {o : Obj} {es : Array DictEntry} {ep : Nat}, s₁.heap.get? b = some o → o.data = .dict es ep → H b = none := fun {b o es ep} e d => by
      cases q : H b with
      | none => rfl
      | some u =>
        obtain rfl : b = a := at_a (by rw [q]; simp)
        rw [ha] at e
        cases e
        cases (show Data.seq vs.toArray _ = Data.dict es ep from d)
    have nsK : ∀ {b : Addr} {m : Str → Option Value}, s₁.heap.Ns b m → (hidT s₁.heap H).Ns b m := fun {b m} ⟨o, es, ep, e, d, r⟩ => ⟨o, es, ep, base_of e (noA e d), d, r⟩
    have hKb : Z.K.In (hidT s₁.heap H) := fun b o e => base_of (KX b o e) (by
      cases q : H b with
      | none => rfl
      | some u =>
        obtain rfl : b = a := at_a (by rw [q]; simp)
        rw [hK (by rw [q]; simp)] at e
        cases e)
    obtain ⟨mc, l1, l2⟩ := hlim
    have e0 : Env0 Pg w Z.K mg (hidT s₁.heap H) callerA [] s₁ H := ⟨rfl, ⟨hKb, nsK hns, ⟨mb, nsK hb, hbb⟩, mc, nsK l1, l2⟩, fun b o e => of_hidT e, Nat.le_of_eq (hidT_size _ _), trivial, fun b hb => absurd (show b ∈ ([] : List Addr) from hb) (by simp), hok, .of_eq hg⟩
    have r0 : Rl Z (fun _ => none) Mem.empty H := ⟨fun _ _ q => (by cases q), fun _ _ q => (by cases (show (none : Option (List P)) = some _ from q)), fun _ _ _ q => (by cases q), fun _ _ q => (by cases (show (none : Option (List P)) = some _ from q)), fun p hp => by rw [hT] at hp; cases hp⟩
    have hsp : spD Z 1 call [.ref a] H (fun v _ => v = .bl true) fun _ _ _ => False := by
      obtain ⟨M1, hc⟩ := hlaw
      refine ⟨rfl, fun _ => none, Mem.empty, [.p (scrD ns)], r0, RepDs.cons (show Rep Z H (scrD ns) (.ref a) from ?_) RepDs.nil, ?_⟩
      · unfold scrD Rep
        exact ⟨a, _, rfl, hS, repL_ints ns⟩
      · rw [hc]
        exact fun ρ' v H' _ _ p' => rep_bl p'
    refine codeAny_mono ((F _ hKb (nsK hns)).run callerA [] s₁ H ⟨[.ref a], []⟩ [.ref a] [.ref a] _ _ ⟨hr, rfl⟩ e0 (hbind s₁ (.ref a)) (.cons rfl .nil) hsp) fun r s' h => ?_
    cases r with
    | error e => exact (cx_false h).elim
    | ok fl =>
      cases fl with
      | next => exact False.elim h
      | brk => exact False.elim h
      | cont => exact False.elim h
      | ret u =>
        obtain ⟨v, H', os, bare, un, hok', r', q⟩ := h
        obtain rfl : v = .bl true := q
        obtain rfl : u = Value.bool true := r'
        refine ⟨rfl, OldK.of_keep fun b o e => ?_, os, bare⟩
        rcases hO b with z | ⟨ob, xs, z⟩
        · exact un.keep b o e z (by intro z; exact absurd (show b ∈ ([] : List Addr) from z) (by simp)) (by simp)
        · have z2 := un.frzs b ob _ z
          obtain ⟨e1, _⟩ := hok b _ z
          obtain ⟨e2, _⟩ := hok' b _ z2
          rw [e] at e1
          cases e1
          exact e2
  cases hk : Z.K.lookup a with
  | some o =>
    have e := KX a o hk
    rw [ha] at e
    cases e
    exact core (fun _ => none) (fun _ => .inl rfl) (.inr ⟨_, vs.toArray, _, hk, rfl, rfl, rfl, by rw [List.size_toArray, lenV]; exact hl, by simpa using rv⟩) (fun b u z => by cases (show (none : Option HO) = some u from z)) (fun b z => absurd rfl z) fun z => absurd rfl z
  | none =>
    refine core (fun b => if b = a then some (.frz { cls := .type "list", data := .seq vs.toArray } (.lst (ns.map V.int))) else none) (fun b => ?_) (.inl ⟨{ cls := .type "list", data := .seq vs.toArray }, if_pos rfl⟩) (fun b u z => ?_) (fun b z => ?_) fun _ => hk
    · by_cases hb : b = a
      · exact .inr ⟨_, _, if_pos hb⟩
      · exact .inl (if_neg hb)
    · by_cases hb : b = a
      · cases (if_pos hb).symm.trans z
        subst hb
        exact ⟨ha, by rw [List.length_map]; exact hl, vs, _, rv, ha⟩
      · cases (if_neg hb).symm.trans z
    · by_cases hb : b = a
      · exact hb
      · exact absurd (if_neg hb) z
/-- a law, over a head by facts -/
theorem walk_ofG {l : PySem.W.OpenLaw} {n k : Nat} {q : Program} {loose : List Str} {XP : (Str → Option Value) → Heap → Prop} {YP : World → Heap → Prop} {d : DefRec} {x : Str} {call : List D → Mem → RE}
    (hn : l.most = some n) (hn2 : n ≤ sizeLine) (hdf : d.params.defaults = []) (hr : Room k callerA)
    (F : ∀ (w : World) (mg : Str → Option Value) (fa : Addr) (h : Heap), YP w h → h.Ns mainGlobals mg → mg d.name = some (.ref fa) →
      ∃ (Z : Am) (fd : FuncData), Z.K.In h ∧ Z.T = [] ∧ (∀ (s : Shared) (u : Value), BindsTo s fd ⟨[u], []⟩ [(x, u)]) ∧ ∀ base : Heap, Z.K.In base → base.Ns mainGlobals mg → FnG l.prog w Z.K mg base k fa fd [x] (spD Z 1 call))
    (hlaw : ∀ ns : List Int, ns.length ≤ n → ∃ M, call [.p (scrD ns)] Mem.empty = .ok (.p (.bl true)) M) :
    PySem.W.WalkO q loose XP YP l.row.toRowW d [] (fun f vs => PySem.call f vs) := by
  refine Att.attach_call hn hdf fun w s₀ s₁ mg mb fa o pm cd doc a vs ns G Y ho hd hcd hmg hobj hints hlen hg => ?_
  obtain ⟨Z, fd, KX, hT, hb, hF⟩ := F w mg fa _ Y G.T.g hmg
  exact law_callG KX G.T.g G.T.b G.T.builtins G.T.nolimit hg hobj hints (Nat.le_trans hlen hn2) hr hT hF hb (hlaw ns hlen)
end FW
/-! FwO: the rules as the printer uses them. -/
namespace FW
open PySem PySem.Spec PyProof.Rows L2

/-- what a context has -/
structure Ct (X : Cx) (Z : Am) (W : WX) (n : Nat) : Prop where
  K : X.K = Z.K
  calm : X.calm = true
  nd : X.N.Nodup
  room : RoomG n X.A
  tk : Takes X W
theorem Ct.u65 {X : Cx} {Z : Am} {W : WX} {n : Nat} (C : Ct X Z W n) : X.A.units + 65 < cLine := by have := C.room.r.un; omega
theorem Ct.u130 {X : Cx} {Z : Am} {W : WX} {n : Nat} (C : Ct X Z W n) : X.A.units + 130 < cLine := by have := C.room.r.un; omega
theorem noW_takes {X : Cx} : Takes X noW := fun _ _ ⟨_, _, _, _, _, _, _, _, _, _, _, _, _, _, _, _, z⟩ => z.elim
theorem Ct.blk {X : Cx} {Z : Am} {W : WX} {n : Nat} (C : Ct X Z W n) (s : Shared) (H : Hp) (scope : Scope) (cenv : Env) (fp : List Addr) : Ct (X.blk s H scope cenv fp) Z noW n := ⟨C.K, C.calm, C.nd, C.room, noW_takes⟩
/-- a name like any other -/
structure NmOk (x : Str) : Prop where
  d : (x == ("__debug__" : Str)) = false
  c : (x == ("__classdict__" : Str)) = false
  n : x ≠ "__name__"
theorem nmOk_of {x : Str} (h : ((x == ("__debug__" : Str)) || (x == ("__classdict__" : Str)) || (x == ("__name__" : Str))) = false) : NmOk x := by
  simp only [Bool.or_eq_false_iff] at h
  exact ⟨h.1.1, h.1.2, fun e => by rw [e] at h; simp at h⟩
/-- a global's value -/
structure GlV (mg : Str → Option Value) (Z : Am) (x : Str) (d : P) : Prop where
  ex : ∃ u v, mg x = some u ∧ RelV v u ∧ ∀ H, Rep Z H d v
/-- arguments without stars -/
def plainArgs : List Expr → Bool
  | [] => true
  | e :: es => notStar e && plainArgs es
theorem back_plain {pos : Pos} {env : Env} : ∀ {es : List Expr}, plainArgs es = true → (backTo pos (starEach es env)).any (·.1) = false
  | [], _ => rfl
  | e :: es, h => by
    unfold plainArgs at h
    rw [Bool.and_eq_true] at h
    rw [star_of h.1]
    show (false || (backTo pos (starEach es env)).any (·.1)) = false
    rw [back_plain h.2]
    rfl
theorem star1 {e : Expr} {env : Env} (h : notStar e = true) : starEach [e] env = [(false, eval e env)] := by rw [star_of h]; rfl
theorem star2 {a b : Expr} {env : Env} (h : notStar a = true) (h2 : notStar b = true) : starEach [a, b] env = [(false, eval a env), (false, eval b env)] := by rw [star_of h, star1 h2]
/-- a callee: x the name, f the number, j the written arguments, dfl the defaults behind them -/
structure Cal (Pg : Program) (w : World) (mg : Str → Option Value) (base : Heap) (Z : Am) (rt : Rt) (k : Nat) (x : Str) (f j : Nat) (dfl : List P) : Prop where
  ex : ∃ (fA : Addr) (fd : FuncData) (ps : List Str) (ds : List Value) (dvs : List V), FnG Pg w Z.K mg base k fA fd ps (spD Z ps.length (rt.call f)) ∧ mg x = some (.ref fA) ∧ PySem.W.keepIn Z.K (.ref fA) = true ∧ j + dvs.length = ps.length ∧ Binds Z.K fd ps ds ∧ Vals dvs ds ∧ ∀ H, RepL Z H dfl dvs
section
variable {X : Cx} {Z : Am} {rt : Rt} {W : WX} {n : Nat} {a b c e o : Expr} {ma mb mc me mo : SE} {ta tb tc : ST} {mas : SA} {es : List Expr} {pos p p2 : Pos} {x : Str} {i j k : Nat}
/-! ### expressions -/
theorem eVar (hN : X.N[i]? = some x) (hv : Vis X.env.scope x) (nm : NmOk x) : PE X (.Name x pos) (tE Z rt W (var i)) := pv_var hN hv nm.d nm.c
theorem eStr {x : Str} {l : List Nat} {q} (h : x.cps.toList = l) : PE X (.Constant (.str x) q pos) (tE Z rt W (cst (.str l))) := by
  subst h
  exact pv_str
theorem eGlo {d : P} (g : GlV X.mg Z x d) (hg : Gl X x) (nm : NmOk x) : PE X (.Name x pos) (tE Z rt W (cst d)) := by
  obtain ⟨u, v, h1, h2, h3⟩ := g.ex
  exact pv_glob hg h1 h2 h3 nm.d
theorem eAdd (C : Ct X Z W n) (mk : Bool) (ha : PE X a (tE Z rt W ma)) (hb : PE X b (tE Z rt W mb)) : PE X (.BinOp a .Add b pos) (tE Z rt W (binE (addD mk) ma mb)) := pv_bin (addD_noX mk) (op_addD C.K mk) ha hb
theorem eSub (ha : PE X a (tE Z rt W ma)) (hb : PE X b (tE Z rt W mb)) : PE X (.BinOp a .Sub b pos) (tE Z rt W (binE subD ma mb)) := pv_bin subD_noX op_subD ha hb
theorem eMul (C : Ct X Z W n) (mk : Bool) (ha : PE X a (tE Z rt W ma)) (hb : PE X b (tE Z rt W mb)) : PE X (.BinOp a .Mult b pos) (tE Z rt W (binE (mulD mk) ma mb)) := pv_bin (mulD_noX mk) (op_mulD C.K) ha hb
theorem eFdiv (ha : PE X a (tE Z rt W ma)) (hb : PE X b (tE Z rt W mb)) : PE X (.BinOp a .FloorDiv b pos) (tE Z rt W (binE fdivD ma mb)) := pv_bin fdivD_noX op_fdivD ha hb
theorem eMod (ha : PE X a (tE Z rt W ma)) (hb : PE X b (tE Z rt W mb)) : PE X (.BinOp a .Mod b pos) (tE Z rt W (binE modD ma mb)) := pv_bin modD_noX op_modD ha hb
theorem ePow (ha : PE X a (tE Z rt W ma)) (hb : PE X b (tE Z rt W mb)) : PE X (.BinOp a .Pow b pos) (tE Z rt W (binE powD ma mb)) := pv_bin powD_noX op_powD ha hb
theorem eNeg (ha : PE X a (tE Z rt W ma)) : PE X (.UnaryOp .USub a pos) (tE Z rt W (unE negD ma)) := pv_un negD_noX un_negD ha
/-- one comparison: the data's operation -/
def cmpD : CmpOp → O2
  | .Eq => eqD false
  | .NotEq => eqD true
  | .Lt => ordD 0
  | .LtE => ordD 1
  | .Gt => ordD 2
  | .GtE => ordD 3
  | .Is => isND false
  | .IsNot => isND true
  | .In => inD false
  | .NotIn => inD true
theorem cmpD_noX (op : CmpOp) (x y : D) (M : Mem) : NoX (cmpD op x y M) := by
  cases op <;> first | exact eqD_noX _ x y M | exact ordD_noX _ x y M | exact isND_noX _ x y M | exact inD_noX _ x y M
theorem op_cmpD (C : Ct X Z W n) (op : CmpOp) : OpR X (compareOp op) (rD Z (cmpD op)) := by
  cases op
  · exact op_eqDD C.K C.u65
  · exact op_neDD C.K C.u65
  · exact op_ltD
  · exact op_leD
  · exact op_gtD
  · exact op_geD
  · exact op_isND
  · exact op_notND
  · exact op_inDD C.K C.u130
  · exact op_notInDD C.K C.u130
theorem cmpD_bl (op : CmpOp) (x y : D) (M : Mem) (d : D) (M' : Mem) (h : cmpD op x y M = .ok d M') : ∃ k, d = .p (.bl k) := by
  cases op <;> simp only [cmpD, eqD, ordD, isND, inD] at h <;> (repeat' split at h) <;> first | (cases h; exact ⟨_, rfl⟩) | cases h
theorem eCmp (C : Ct X Z W n) (op : CmpOp) (ha : PE X a (tE Z rt W ma)) (hb : PE X b (tE Z rt W mb)) (hm : behindInMarks op b = false) : PE X (.Compare a [op] [b] pos) (tE Z rt W (binE (cmpD op) ma mb)) := pv_cmp (cmpD_noX op) (op_cmpD C op) ha hb hm
theorem eCmp2 (C : Ct X Z W n) (o1 o2 : CmpOp) (ha : PE X a (tE Z rt W ma)) (hb : PE X b (tE Z rt W mb)) (hc : PE X c (tE Z rt W mc)) (hm : lastMarks [o1, o2] [b, c] = false) : PE X (.Compare a [o1, o2] [b, c] pos) (tE Z rt W (chainE (cmpD o1) (cmpD o2) ma mb mc)) :=
  pv_chain (cmpD_noX o1) (cmpD_noX o2) (op_cmpD C o1) (op_cmpD C o2) ha hb hc hm
theorem eIdx (C : Ct X Z W n) (ha : PE X a (tE Z rt W ma)) (hb : PE X b (tE Z rt W mb)) (hs : notSl b = true) : PE X (.Subscript a b pos) (tE Z rt W (binE idxD ma mb)) := pv_idx C.K ha hb hs
theorem eTup (h : PA X es (tA Z rt W mas)) : PE X (.Tuple es k pos) (tE Z rt W (tupE mas)) := pv_tup h
theorem eLst (mk : Bool) (h : PA X es (tA Z rt W mas)) : PE X (.List es pos) (tE Z rt W (lstE mk mas)) := pv_lst h
theorem eNot (C : Ct X Z W n) (ha : PE X a (tE Z rt W ma)) : PE X (.UnaryOp .Not a pos) (tE Z rt W (notE ma)) := pv_not C.K ha
theorem eAnd {rest : List Expr} (C : Ct X Z W n) (ha : PE X a (tE Z rt W ma)) (hb : PE X (.BoolOp .And (b :: rest) pos) (tE Z rt W mb)) : PE X (.BoolOp .And (a :: b :: rest) pos) (tE Z rt W (andE ma mb)) := pv_and C.K ha hb
theorem eOr {rest : List Expr} (C : Ct X Z W n) (ha : PE X a (tE Z rt W ma)) (hb : PE X (.BoolOp .Or (b :: rest) pos) (tE Z rt W mb)) : PE X (.BoolOp .Or (a :: b :: rest) pos) (tE Z rt W (orE ma mb)) := pv_or C.K ha hb
/-! ### tests -/
theorem tPl (C : Ct X Z W n) (h : plainT a = true) (ha : PE X a (tE Z rt W ma)) : PT X a (tT Z rt W (truE ma)) := pt_plain C.K h ha
theorem tCp (C : Ct X Z W n) (op : CmpOp) (ha : PE X a (tE Z rt W ma)) (hb : PE X b (tE Z rt W mb)) (hm : behindInMarks op b = false) : PT X (.Compare a [op] [b] pos) (tT Z rt W (truE (binE (cmpD op) ma mb))) := pt_cmpD C.K (cmpD_noX op) (cmpD_bl op) (op_cmpD C op) ha hb hm
theorem tCp2 (C : Ct X Z W n) (o1 o2 : CmpOp) (ha : PE X a (tE Z rt W ma)) (hb : PE X b (tE Z rt W mb)) (hc : PE X c (tE Z rt W mc)) (hm : lastMarks [o1, o2] [b, c] = false) : PT X (.Compare a [o1, o2] [b, c] pos) (tT Z rt W (truE (chainE (cmpD o1) (cmpD o2) ma mb mc))) :=
  pt_chainD C.K (cmpD_noX o1) (cmpD_noX o2) (cmpD_bl o2) (op_cmpD C o1) (op_cmpD C o2) ha hb hc hm
/-! ### calls of built-ins -/
theorem eB {id : String} {op : List D → Mem → RE} (hn : ∀ ds M, NoX (op ds M)) (hc : CallR X (.builtin id) (rDA Z op)) (hg : Gl X x) (hm : X.mg x = none) (hv : bootBuiltins x = some (.builtin id)) (nm : NmOk x) (hp : plainArgs (e :: es) = true) (ha : PA X (e :: es) (tA Z rt W mas)) : PE X (.Call (.Name x p) (e :: es) [] pos) (tE Z rt W (callB op mas)) := by
  unfold plainArgs at hp
  rw [Bool.and_eq_true] at hp
  exact pv_callB hn hc hg hm hv ha nm.n nm.d (star_of hp.1) (back_plain hp.2)
theorem eT {T : String} {op : List D → Mem → RE} (hn : ∀ ds M, NoX (op ds M)) (hc : CallR X (.type T) (rDA Z op)) (hg : Gl X x) (hm : X.mg x = none) (hv : bootBuiltins x = some (.type T)) (nm : NmOk x) (hp : plainArgs (e :: es) = true) (ha : PA X (e :: es) (tA Z rt W mas)) : PE X (.Call (.Name x p) (e :: es) [] pos) (tE Z rt W (callB op mas)) := by
  unfold plainArgs at hp
  rw [Bool.and_eq_true] at hp
  exact pv_callTy hn hc hg hm hv ha nm.n nm.d (star_of hp.1) (back_plain hp.2)
theorem eIsi (C : Ct X Z W n) (t : BT) (hg : Gl X "isinstance") (hm : X.mg "isinstance" = none) (hg2 : Gl X x) (hm2 : X.mg x = none) (hv : bootBuiltins x = some (.type t.name)) (nm : NmOk x) (hs : notStar e = true) (he : PE X e (tE Z rt W me)) : PE X (.Call (.Name "isinstance" p) [e, .Name x p2] [] pos) (tE Z rt W (unE (isiD t) me)) :=
  pv_isi C.K hg hm hg2 hm2 hv nm.n nm.d he (star_of hs)
theorem eRev (C : Ct X Z W n) (mk : Bool) {q : Nat} {p1 p2 p3 : Pos} (ha : PE X a (tE Z rt W ma)) : PE X (.Subscript a (.Slice none none (some (.UnaryOp .USub (.Constant (.int 1) q p1) p2)) p3) pos) (tE Z rt W (revE mk ma)) := pv_rev C.K ha
/-- not a call of super, nor a plain name of a module: what stands ahead of a dot -/
def plainBase : Expr → Bool
  | .Call _ _ _ _ => false
  | _ => true
theorem base_of {o : Expr} {attr : Str} {env : Env} {t : Sem Value} (h : plainBase o = true) : attributeBase o attr env t = t := by
  cases o <;> first | rfl | cases h
theorem eApp {apos cpos : Pos} (ho : PE X o (tE Z rt W mo)) (he : PE X e (tE Z rt W me)) (hs : notStar e = true) (hb : plainBase o = true) (hl : (apos.endLine == cpos.line) = true) : PE X (.Call (.Attribute o "append" apos) [e] [] cpos) (tE Z rt W (appE mo me)) :=
  pv_app ho he (star_of hs) (base_of hb) (by rw [star1 hs]; rfl) hl
theorem eSet0 {t : Option Expr} {l : Nat} {env : Env} {e : Expr} (h : notLc e = true) : swapsWith e t l env = pure false := swapsWith_of h
/-! ### own defs -/
theorem consA_len {m : SA} {a : SE} {k : Nat} (h : ∀ rt δ M ds M1, m rt δ M = .ok ds M1 → ds.length = k) : ∀ rt δ M ds M1, consA a m rt δ M = .ok ds M1 → ds.length = k + 1 := fun rt δ M ds M1 e => by
  unfold consA at e
  cases h1 : a rt δ M with
  | ok d M2 =>
    rw [h1] at e
    have e : (m rt δ M2).bindA (fun xs M3 => .ok (d :: xs) M3) = .ok ds M1 := e
    cases h2 : m rt δ M2 with
    | ok es M3 =>
      rw [h2] at e
      cases e
      rw [List.length_cons, h _ _ _ _ _ h2]
    | exc x M3 => rw [h2] at e; cases e
    | bad => rw [h2] at e; cases e
  | exc x M2 => rw [h1] at e; cases e
  | bad => rw [h1] at e; cases e
theorem nilA_len : ∀ (rt : Rt) (δ : Slots) (M : Mem) (ds : List D) (M1 : Mem), nilA rt δ M = .ok ds M1 → ds.length = 0 := fun _ _ _ _ _ e => by
  cases e
  rfl
theorem eFn {f j : Nat} {dfl : List P} (own : Bool) (C : Ct X Z W n) (c : Cal X.prog X.w X.mg X.base Z rt n x f j dfl) (hg : Gl X x) (nm : NmOk x) (hp : plainArgs (e :: es) = true) (ha : PA X (e :: es) (tA Z rt W mas)) (hl : ∀ rt δ M ds M1, mas rt δ M = .ok ds M1 → ds.length = j) (hj : (e :: es).length = j) :
    PE X (.Call (.Name x p) (e :: es) [] pos) (tE Z rt W (callF own f dfl mas)) := by
  subst hj
  obtain ⟨fA, fd, ps, ds, dvs, F, h1, h2, h3, h4, h5, h6⟩ := c.ex
  have hK := C.K
  unfold plainArgs at hp
  rw [Bool.and_eq_true] at hp
  exact pv_call (by rw [hK]; exact F) C.room C.tk hg h1 (by rw [hK]; exact h2) (by rw [hK]; exact h4) h5 h6 ha h3 nm.d (star_of hp.1) (back_plain hp.2) hl
theorem eFn0 {f : Nat} {dfl : List P} (own : Bool) (C : Ct X Z W n) (c : Cal X.prog X.w X.mg X.base Z rt n x f 0 dfl) (hg : Gl X x) (nm : NmOk x) : PE X (.Call (.Name x p) [] [] pos) (tE Z rt W (callF own f dfl nilArgs)) := by
  obtain ⟨fA, fd, ps, ds, dvs, F, h1, h2, h3, h4, h5, h6⟩ := c.ex
  have hK := C.K
  exact pv_call0 (by rw [hK]; exact F) C.room C.tk hg h1 (by rw [hK]; exact h2) (by rw [hK]; exact h4) h5 h6 (by omega) nm.d
/-! ### what is walked -/
/-- not a set display: a loop's iterable -/
def plainIt : Expr → Bool
  | .Set _ _ _ => false
  | _ => true
theorem fold_of {e : Expr} {env : Env} (h : plainIt e = true) (x : Value) : foldedSetIterable e env x = pure x := by
  cases e <;> first | rfl | cases h
theorem iVl {tg : Expr} (C : Ct X Z W n) (ha : PE X a (tE Z rt W ma)) : PI X tg a (tI Z rt W (valI ma)) := pi_valD C.K ha
theorem iR1 {tg : Expr} (hg : Gl X "range") (hm : X.mg "range" = none) (ha : PA X [a] (tA Z rt W mas)) (hs : plainArgs [a] = true) : PI X tg (.Call (.Name "range" p) [a] [] pos) (tI Z rt W (rngI1 mas)) := by
  simp only [plainArgs, Bool.and_true] at hs
  exact pi_rng1D hg hm ha (star1 hs)
theorem iR2 {tg : Expr} (hg : Gl X "range") (hm : X.mg "range" = none) (ha : PA X [a, b] (tA Z rt W mas)) (hs : plainArgs [a, b] = true) : PI X tg (.Call (.Name "range" p) [a, b] [] pos) (tI Z rt W (rngI2 mas)) := by
  simp only [plainArgs, Bool.and_true, Bool.and_eq_true] at hs
  exact pi_rng2D hg hm ha (star2 hs.1 hs.2) (star1 hs.2)
theorem iR3 {tg : Expr} (hg : Gl X "range") (hm : X.mg "range" = none) (ha : PA X [a, b, c] (tA Z rt W mas)) (hs : plainArgs [a, b, c] = true) : PI X tg (.Call (.Name "range" p) [a, b, c] [] pos) (tI Z rt W (rngI3 mas)) := by
  have hs := Bool.and_eq_true_iff.mp (show (notStar a && plainArgs [b, c]) = true from hs)
  exact pi_rng3D hg hm ha (star_of hs.1) (back_plain hs.2)
theorem iZp {elts : List Expr} {kk : Nat} {tpos : Pos} (C : Ct X Z W n) (hg : Gl X "zip") (hm : X.mg "zip" = none) (ha : PA X [a, b] (tA Z rt W mas)) (hs : plainArgs [a, b] = true) : PI X (.Tuple elts kk tpos) (.Call (.Name "zip" p) [a, b] [] pos) (tI Z rt W (zipI mas)) := by
  have hs := Bool.and_eq_true_iff.mp (show (notStar a && plainArgs [b]) = true from hs)
  exact pi_zipD C.K hg hm ha (star_of hs.1) (back_plain hs.2)
end
end FW
/-! FwP: what the table and the head need. -/
namespace FW
open PySem PySem.Spec PyProof.Rows L2
theorem fnG_zero {Pg : Program} {w : World} {K : PySem.W.Frag} {mg : Str → Option Value} {base : Heap} {k : Nat} {f : Addr} {fd : FuncData} {ps : List Str} {Z : Am} : FnG Pg w K mg base k f fd ps (spD Z ps.length fun _ _ => .bad) :=
  ⟨fun _ _ _ _ h => h.1, fun _ _ _ _ _ _ _ _ _ _ _ _ _ ⟨_, _, _, _, _, _, z⟩ => (show False from z).elim⟩
section
variable {K : PySem.W.Frag} {h : Heap} {mg : Str → Option Value} {Z : Am} {x : Str}
theorem glv_int (hK : K.In h) (G : h.Ns mainGlobals mg) {i : Int} (c : (He.Fa.int x i).ok K = true) : GlV mg Z x (.int i) := by
  obtain ⟨t, e⟩ := He.int_ok hK G c
  exact ⟨_, .int i, e, ⟨t, rfl⟩, fun H => by unfold Rep; rfl⟩
theorem glv_str (hK : K.In h) (G : h.Ns mainGlobals mg) {z : Str} {l : List Nat} (c : (He.Fa.str x z).ok K = true) (hl : z.cps.toList = l) : GlV mg Z x (.str l) := by
  obtain ⟨t, e⟩ := He.str_ok hK G c
  subst hl
  exact ⟨_, .str z, e, ⟨t, rfl⟩, fun H => by unfold Rep; simp⟩
theorem glv_tup (e : mg x = some (.ref (He.ga K x))) {vs : List He.Dv} {ds : List P} (hZ : Z.K = K) (c : He.tupB K x vs = true) (r : ∀ H, RepL Z H ds (vs.map (He.Dv.v K))) : GlV mg Z x (.tup ds) :=
  ⟨_, .ref (He.ga K x), e, rfl, fun H => by
    unfold Rep
    exact ⟨_, _, rfl, by rw [hZ]; exact He.tupB_ok c H, r H⟩⟩
theorem rInt {H : Hp} {i : Int} : Rep Z H (.int i) (.int i) := by unfold Rep; rfl
theorem rBl {H : Hp} {i : Bool} : Rep Z H (.bl i) (.bl i) := by unfold Rep; rfl
theorem rNon {H : Hp} : Rep Z H .non .non := by unfold Rep; rfl
theorem rStr {H : Hp} {z : Str} {l : List Nat} (hl : z.cps.toList = l) : Rep Z H (.str l) (.str z) := by
  subst hl
  unfold Rep
  simp
end
end FW
/-! FwS: what simp unfolds. -/
namespace FW
open PySem PySem.Spec PyProof.Rows L2
@[simp] theorem z_RE_bind : type_of% @RE.bind.eq_def := @RE.bind.eq_def
@[simp] theorem z_RE_bindT : type_of% @RE.bindT.eq_def := @RE.bindT.eq_def
@[simp] theorem z_RE_bindA : type_of% @RE.bindA.eq_def := @RE.bindA.eq_def
@[simp] theorem z_RT_bind : type_of% @RT.bind.eq_def := @RT.bind.eq_def
@[simp] theorem z_RT_bindT : type_of% @RT.bindT.eq_def := @RT.bindT.eq_def
@[simp] theorem z_RT_bindA : type_of% @RT.bindA.eq_def := @RT.bindA.eq_def
@[simp] theorem z_RA_bind : type_of% @RA.bind.eq_def := @RA.bind.eq_def
@[simp] theorem z_RA_bindT : type_of% @RA.bindT.eq_def := @RA.bindT.eq_def
@[simp] theorem z_RA_bindA : type_of% @RA.bindA.eq_def := @RA.bindA.eq_def
@[simp] theorem z_RE_bindS : type_of% @RE.bindS.eq_def := @RE.bindS.eq_def
@[simp] theorem z_RT_bindS : type_of% @RT.bindS.eq_def := @RT.bindS.eq_def
@[simp] theorem z_RA_bindS : type_of% @RA.bindS.eq_def := @RA.bindS.eq_def
@[simp] theorem z_RE_bindI : type_of% @RE.bindI.eq_def := @RE.bindI.eq_def
@[simp] theorem z_RA_bindI : type_of% @RA.bindI.eq_def := @RA.bindI.eq_def
@[simp] theorem z_RI_bind : type_of% @RI.bind.eq_def := @RI.bind.eq_def
@[simp] theorem z_RI_bindS : type_of% @RI.bindS.eq_def := @RI.bindS.eq_def
@[simp] theorem z_cst : type_of% @cst.eq_def := @cst.eq_def
@[simp] theorem z_var : type_of% @var.eq_def := @var.eq_def
@[simp] theorem z_badE : type_of% @badE.eq_def := @badE.eq_def
@[simp] theorem z_binE : type_of% @binE.eq_def := @binE.eq_def
@[simp] theorem z_unE : type_of% @unE.eq_def := @unE.eq_def
@[simp] theorem z_truE : type_of% @truE.eq_def := @truE.eq_def
@[simp] theorem z_truD : type_of% @truD.eq_def := @truD.eq_def
@[simp] theorem z_badS : type_of% @badS.eq_def := @badS.eq_def
@[simp] theorem z_nilS : type_of% @nilS.eq_def := @nilS.eq_def
@[simp] theorem z_seqS : type_of% @seqS.eq_def := @seqS.eq_def
@[simp] theorem z_exprS : type_of% @exprS.eq_def := @exprS.eq_def
@[simp] theorem z_retS : type_of% @retS.eq_def := @retS.eq_def
@[simp] theorem z_retNS : type_of% @retNS.eq_def := @retNS.eq_def
@[simp] theorem z_brkS : type_of% @brkS.eq_def := @brkS.eq_def
@[simp] theorem z_ctS : type_of% @ctS.eq_def := @ctS.eq_def
@[simp] theorem z_ifS : type_of% @ifS.eq_def := @ifS.eq_def
@[simp] theorem z_setS : type_of% @setS.eq_def := @setS.eq_def
@[simp] theorem z_parS : type_of% @parS.eq_def := @parS.eq_def
@[simp] theorem z_parS3 : type_of% @parS3.eq_def := @parS3.eq_def
@[simp] theorem z_asgS : type_of% @asgS.eq_def := @asgS.eq_def
@[simp] theorem z_nameG : type_of% @nameG.eq_def := @nameG.eq_def
@[simp] theorem z_tupG : type_of% @tupG.eq_def := @tupG.eq_def
@[simp] theorem z_RS_out : type_of% @RS.out.eq_def := @RS.out.eq_def
@[simp] theorem z_RS_loop : type_of% @RS.loop.eq_def := @RS.loop.eq_def
@[simp] theorem z_notE : type_of% @notE.eq_def := @notE.eq_def
@[simp] theorem z_andE : type_of% @andE.eq_def := @andE.eq_def
@[simp] theorem z_orE : type_of% @orE.eq_def := @orE.eq_def
@[simp] theorem z_ifE : type_of% @ifE.eq_def := @ifE.eq_def
@[simp] theorem z_notT : type_of% @notT.eq_def := @notT.eq_def
@[simp] theorem z_andT : type_of% @andT.eq_def := @andT.eq_def
@[simp] theorem z_orT : type_of% @orT.eq_def := @orT.eq_def
@[simp] theorem z_nilA : type_of% @nilA.eq_def := @nilA.eq_def
@[simp] theorem z_consA : type_of% @consA.eq_def := @consA.eq_def
@[simp] theorem z_tupE : type_of% @tupE.eq_def := @tupE.eq_def
@[simp] theorem z_lstE : type_of% @lstE.eq_def := @lstE.eq_def
@[simp] theorem z_finL : type_of% @finL.eq_def := @finL.eq_def
@[simp] theorem z_callB : type_of% @callB.eq_def := @callB.eq_def
@[simp] theorem z_callF : type_of% @callF.eq_def := @callF.eq_def
@[simp] theorem z_callD : type_of% @callD.eq_def := @callD.eq_def
@[simp] theorem z_nilArgs : type_of% @nilArgs.eq_def := @nilArgs.eq_def
@[simp] theorem z_cmpEq (x y : D) (M : Mem) : cmpD .Eq x y M = eqD false x y M := rfl
@[simp] theorem z_cmpNotEq (x y : D) (M : Mem) : cmpD .NotEq x y M = eqD true x y M := rfl
@[simp] theorem z_cmpLt (x y : D) (M : Mem) : cmpD .Lt x y M = ordD 0 x y M := rfl
@[simp] theorem z_cmpLtE (x y : D) (M : Mem) : cmpD .LtE x y M = ordD 1 x y M := rfl
@[simp] theorem z_cmpGt (x y : D) (M : Mem) : cmpD .Gt x y M = ordD 2 x y M := rfl
@[simp] theorem z_cmpGtE (x y : D) (M : Mem) : cmpD .GtE x y M = ordD 3 x y M := rfl
@[simp] theorem z_cmpIs (x y : D) (M : Mem) : cmpD .Is x y M = isND false x y M := rfl
@[simp] theorem z_cmpIsNot (x y : D) (M : Mem) : cmpD .IsNot x y M = isND true x y M := rfl
@[simp] theorem z_cmpIn (x y : D) (M : Mem) : cmpD .In x y M = inD false x y M := rfl
@[simp] theorem z_cmpNotIn (x y : D) (M : Mem) : cmpD .NotIn x y M = inD true x y M := rfl
@[simp] theorem z_ordD : type_of% @ordD.eq_def := @ordD.eq_def
@[simp] theorem z_ordI : type_of% @ordI.eq_def := @ordI.eq_def
@[simp] theorem z_isND : type_of% @isND.eq_def := @isND.eq_def
@[simp] theorem z_subD : type_of% @subD.eq_def := @subD.eq_def
@[simp] theorem z_negD : type_of% @negD.eq_def := @negD.eq_def
@[simp] theorem z_lenD : type_of% @lenD.eq_def := @lenD.eq_def
@[simp] theorem z_absD : type_of% @absD.eq_def := @absD.eq_def
@[simp] theorem z_max2D : type_of% @max2D.eq_def := @max2D.eq_def
@[simp] theorem z_min2D : type_of% @min2D.eq_def := @min2D.eq_def
@[simp] theorem z_int1D : type_of% @int1D.eq_def := @int1D.eq_def
@[simp] theorem z_tupD : type_of% @tupD.eq_def := @tupD.eq_def
@[simp] theorem z_isiD : type_of% @isiD.eq_def := @isiD.eq_def
@[simp] theorem z_isBT : type_of% @isBT.eq_def := @isBT.eq_def
@[simp] theorem z_lcE : type_of% @lcE.eq_def := @lcE.eq_def
@[simp] theorem z_finO : type_of% @finO.eq_def := @finO.eq_def
@[simp] theorem z_lcTurn : type_of% @lcTurn.eq_def := @lcTurn.eq_def
@[simp] theorem z_yesT : type_of% @yesT.eq_def := @yesT.eq_def
@[simp] theorem z_valI : type_of% @valI.eq_def := @valI.eq_def
@[simp] theorem z_srcD : type_of% @srcD.eq_def := @srcD.eq_def
@[simp] theorem z_forS : type_of% @forS.eq_def := @forS.eq_def
@[simp] theorem z_whileS : type_of% @whileS.eq_def := @whileS.eq_def
@[simp] theorem z_chainE : type_of% @chainE.eq_def := @chainE.eq_def
@[simp] theorem z_lstOf : type_of% @lstOf.eq_def := @lstOf.eq_def
@[simp] theorem z_pureD : type_of% @pureD.eq_def := @pureD.eq_def
@[simp] theorem addD_int (mk : Bool) (i j : Int) (M : Mem) : addD mk (.p (.int i)) (.p (.int j)) M = .ok (.p (.int (i + j))) M := rfl
theorem mulD_int {mk : Bool} {i j : Int} {M : Mem} (h : i.natAbs.log2 + j.natAbs.log2 < 1000000) : mulD mk (.p (.int i)) (.p (.int j)) M = .ok (.p (.int (i * j))) M := by
  exact if_pos (Nat.ble_eq_true_of_le h)
theorem fdivD_int {i j : Int} {M : Mem} (h : 0 < j) (h2 : j.natAbs.log2 < 9000) : fdivD (.p (.int i)) (.p (.int j)) M = .ok (.p (.int (i / j))) M := by
  exact if_pos (by rw [Bool.and_eq_true]; exact ⟨decide_eq_true h, Nat.ble_eq_true_of_le h2⟩)
theorem modD_int {i j : Int} {M : Mem} (h : 0 < j) : modD (.p (.int i)) (.p (.int j)) M = .ok (.p (.int (i % j))) M := by
  exact if_pos (decide_eq_true h)
@[simp] theorem eqD_int (neg : Bool) (i j : Int) (M : Mem) : eqD neg (.p (.int i)) (.p (.int j)) M = .ok (.p (.bl (if neg then !(decide (i = j)) else decide (i = j)))) M := by
  have e : eqI i j = decide (i = j) := by rw [eqI_eq]; rfl
  show RE.ok (.p (.bl (if neg = true then !eqI i j else eqI i j))) M = _
  rw [e]
@[simp] theorem small_lit0 : small 0 = true := rfl
@[simp] theorem small_lit1 : small 1 = true := rfl
@[simp] theorem small_lit2 : small 2 = true := rfl
@[simp] theorem small_lit3 : small 3 = true := rfl
@[simp] theorem small_lit4 : small 4 = true := rfl
@[simp] theorem small_lit5 : small 5 = true := rfl
@[simp] theorem small_lit6 : small 6 = true := rfl
@[simp] theorem small_lit7 : small 7 = true := rfl
@[simp] theorem small_lit8 : small 8 = true := rfl
@[simp] theorem small_lit9 : small 9 = true := rfl
@[simp] theorem small_lit10 : small 10 = true := rfl
@[simp] theorem small_lit11 : small 11 = true := rfl
@[simp] theorem small_lit12 : small 12 = true := rfl
@[simp] theorem small_lit13 : small 13 = true := rfl
@[simp] theorem small_lit14 : small 14 = true := rfl
@[simp] theorem small_lit15 : small 15 = true := rfl
@[simp] theorem small_lit16 : small 16 = true := rfl
@[simp] theorem small_lit17 : small 17 = true := rfl
@[simp] theorem small_lit18 : small 18 = true := rfl
@[simp] theorem small_lit19 : small 19 = true := rfl
@[simp] theorem small_lit20 : small 20 = true := rfl
@[simp] theorem small_lit21 : small 21 = true := rfl
@[simp] theorem small_lit22 : small 22 = true := rfl
@[simp] theorem small_lit23 : small 23 = true := rfl
@[simp] theorem small_lit24 : small 24 = true := rfl
@[simp] theorem small_lit25 : small 25 = true := rfl
@[simp] theorem small_lit26 : small 26 = true := rfl
@[simp] theorem small_lit27 : small 27 = true := rfl
@[simp] theorem small_lit28 : small 28 = true := rfl
@[simp] theorem small_lit29 : small 29 = true := rfl
@[simp] theorem small_lit30 : small 30 = true := rfl
@[simp] theorem small_lit31 : small 31 = true := rfl
@[simp] theorem small_lit32 : small 32 = true := rfl
@[simp] theorem small_lit33 : small 33 = true := rfl
@[simp] theorem small_lit34 : small 34 = true := rfl
@[simp] theorem small_lit35 : small 35 = true := rfl
@[simp] theorem small_lit36 : small 36 = true := rfl
@[simp] theorem small_lit37 : small 37 = true := rfl
@[simp] theorem small_lit38 : small 38 = true := rfl
@[simp] theorem small_lit39 : small 39 = true := rfl
@[simp] theorem small_lit40 : small 40 = true := rfl
@[simp] theorem z_allP0 : allP [] = some [] := rfl
@[simp] theorem z_allP1 (x : P) (ds : List D) : allP (.p x :: ds) = (match allP ds with
  | some xs => some (x :: xs)
  | none => none) := rfl
@[simp] theorem z_wipe0 (δ : Slots) : wipeS δ [] = δ := rfl
@[simp] theorem z_wipe1 (δ : Slots) (v : Nat) (vs : List Nat) : wipeS δ (v :: vs) = (wipeS δ vs).set v none := rfl
@[simp] theorem idx_t0 (a : P) (ds : List P) (M : Mem) : idxD (.p (.tup (a :: ds))) (.p (.int 0)) M = .ok (.p a) M := rfl
@[simp] theorem idx_t1 (a b : P) (ds : List P) (M : Mem) : idxD (.p (.tup (a :: b :: ds))) (.p (.int 1)) M = .ok (.p b) M := rfl
@[simp] theorem idx_t2 (a b c : P) (ds : List P) (M : Mem) : idxD (.p (.tup (a :: b :: c :: ds))) (.p (.int 2)) M = .ok (.p c) M := rfl
theorem idx_loc {n : Nat} {ds : List P} {M : Mem} {i : Int} {d : P} (h : M.at_ n = some ds) (h2 : atL ds i = some d) : idxD (.loc n) (.p (.int i)) M = .ok (.p d) M := by
  show (match lstOf (.loc n) M with
    | some ds => (match atL ds i with
      | some d => RE.ok (.p d) M
      | none => .bad)
    | none => .bad) = _
  rw [show lstOf (.loc n) M = some ds from h]
  show (match atL ds i with
      | some d => RE.ok (.p d) M
      | none => .bad) = _
  rw [h2]
theorem idx_lst {ds : List P} {M : Mem} {i : Int} {d : P} (h2 : atL ds i = some d) : idxD (.p (.lst ds)) (.p (.int i)) M = .ok (.p d) M := by
  show (match atL ds i with
      | some d => RE.ok (.p d) M
      | none => .bad) = _
  rw [h2]
@[simp] theorem z_allD : type_of% @allD.eq_def := @allD.eq_def
@[simp] theorem z_anyD : type_of% @anyD.eq_def := @anyD.eq_def
@[simp] theorem z_bls0 : blsP [] = some [] := rfl
@[simp] theorem z_bls1 (b : Bool) (ds : List P) : blsP (.bl b :: ds) = (match blsP ds with
  | some bs => some (b :: bs)
  | none => none) := rfl
@[simp] theorem z_lc0 (g : SG) (tt : ST) (te : SE) (rt : Rt) (δ : Slots) (acc : List P) (M : Mem) : lcSeq g tt te rt δ [] acc M = some (acc, M) := rfl
@[simp] theorem z_lc1 (g : SG) (tt : ST) (te : SE) (rt : Rt) (δ : Slots) (d : P) (ds acc : List P) (M : Mem) : lcSeq g tt te rt δ (d :: ds) acc M = (match lcTurn g tt te rt δ (.p d) M with
  | .add y M1 => if small acc.length then lcSeq g tt te rt δ ds (acc ++ [y]) M1 else none
  | .skip M1 => lcSeq g tt te rt δ ds acc M1
  | .bad => none) := rfl
@[simp] theorem z_for0 (g : SG) (b : SS) (rt : Rt) (δ : Slots) (M : Mem) : forSeq g b rt [] δ M = .nx δ M := rfl
@[simp] theorem z_for1 (g : SG) (b : SS) (rt : Rt) (d : P) (ds : List P) (δ : Slots) (M : Mem) : forSeq g b rt (d :: ds) δ M = (match g (.p d) δ M with
    | none => .bad
    | some δ1 => (b rt δ1 M).loop (forSeq g b rt ds)) := rfl
@[simp] theorem rtN_L {T : Tbl} {L n : Nat} : (rtN T L n).L = L := by cases n <;> rfl
theorem rt_call {T : Tbl} {L n k N : Nat} {m : SS} {ds : List D} {M : Mem} (h : T k = some (N, m)) (hp : plainD ds = true := by rfl) : (rtN T L (n + 1)).call k ds M = runS N m (rtN T L n) ds M := by
  show (match T k with
    | some (N, m) => if plainD ds then runS N m (rtN T L n) ds M else .bad
    | none => .bad) = _
  rw [h]
  exact if_pos hp
end FW
/-! FwR: fractions: a Rat as data; sizes. -/
namespace FW
open PySem PySem.Spec PyProof.Rows L2
/-- a fraction as the program has it -/
def nm (q : Rat) : P := .tup [.int q.num, .int q.den]
/-- not too long -/
def Sz (k : Nat) (q : Rat) : Prop := q.num.natAbs < 2 ^ k ∧ q.den < 2 ^ k
theorem Sz.mono {j k : Nat} {q : Rat} (h : Sz j q) (l : j ≤ k) : Sz k q := ⟨Nat.lt_of_lt_of_le h.1 (Nat.pow_le_pow_right (by decide) l), Nat.lt_of_lt_of_le h.2 (Nat.pow_le_pow_right (by decide) l)⟩
theorem den_of (t b : Int) (h : b ≠ 0) : ((Rat.divInt t b).den : Int) = (b.natAbs : Int) / (b.gcd t : Nat) := by
  rw [Rat.den_divInt, if_neg h]
  rfl
theorem sz_div {k : Nat} {t b : Int} (h : t.natAbs < 2 ^ k) (h2 : b.natAbs < 2 ^ k) (h0 : b ≠ 0) : Sz k (Rat.divInt t b) := by
  constructor
  · rw [Rat.num_divInt]
    refine Nat.lt_of_le_of_lt ?_ h
    have : (b.sign * t / (b.gcd t : Nat)).natAbs ≤ (b.sign * t).natAbs := by
      rw [Int.natAbs_ediv_of_dvd]
      · exact Nat.div_le_self _ _
      · exact Int.dvd_mul_of_dvd_right (Int.gcd_dvd_right ..)
    refine Nat.le_trans this ?_
    rw [Int.natAbs_mul, Int.natAbs_sign]
    split <;> omega
  · rw [Rat.den_divInt, if_neg h0]
    exact Nat.lt_of_le_of_lt (Nat.div_le_self _ _) h2
theorem add_div (p q : Rat) : p + q = Rat.divInt (p.num * q.den + q.num * p.den) (p.den * q.den) := by
  have h1 : (p.den : Int) ≠ 0 := by have := p.den_nz; omega
  have h2 : (q.den : Int) ≠ 0 := by have := q.den_nz; omega
  rw [← Rat.divInt_add_divInt _ _ h1 h2, Rat.num_divInt_den, Rat.num_divInt_den]
theorem mul_div (p q : Rat) : p * q = Rat.divInt (p.num * q.num) (p.den * q.den) := by
  rw [← Rat.divInt_mul_divInt, Rat.num_divInt_den, Rat.num_divInt_den]
theorem pow_mul_lt {a b : Nat} {x y : Nat} (h : x < 2 ^ a) (h2 : y < 2 ^ b) : x * y < 2 ^ (a + b) := by
  rw [Nat.pow_add]
  exact Nat.mul_lt_mul'' h h2
theorem den_pos (p : Rat) : (0 : Int) < p.den := by have := p.den_pos; omega
theorem sz_add {a b : Nat} {p q : Rat} (h : Sz a p) (h2 : Sz b q) : Sz (a + b + 1) (p + q) := by
  rw [add_div]
  have e1 := pow_mul_lt h.1 h2.2
  have e2 := pow_mul_lt h2.1 h.2
  have e3 := pow_mul_lt h.2 h2.2
  rw [Nat.add_comm b a] at e2
  refine sz_div ?_ ?_ (Int.ne_of_gt (Int.mul_pos (den_pos p) (den_pos q)))
  · refine Nat.lt_of_le_of_lt (Int.natAbs_add_le _ _) ?_
    rw [Int.natAbs_mul, Int.natAbs_mul, Int.natAbs_natCast, Int.natAbs_natCast, Nat.pow_succ]
    omega
  · rw [Int.natAbs_mul, Int.natAbs_natCast, Int.natAbs_natCast, Nat.pow_succ]
    omega
theorem sz_mul {a b : Nat} {p q : Rat} (h : Sz a p) (h2 : Sz b q) : Sz (a + b) (p * q) := by
  rw [mul_div]
  refine sz_div ?_ ?_ (Int.ne_of_gt (Int.mul_pos (den_pos p) (den_pos q)))
  · rw [Int.natAbs_mul]
    exact pow_mul_lt h.1 h2.1
  · rw [Int.natAbs_mul, Int.natAbs_natCast, Int.natAbs_natCast]
    exact pow_mul_lt h.2 h2.2
theorem sz_neg {a : Nat} {p : Rat} (h : Sz a p) : Sz a (-p) := by
  refine ⟨?_, by rw [Rat.neg_den]; exact h.2⟩
  rw [Rat.neg_num, Int.natAbs_neg]
  exact h.1
theorem log_lt {n k : Nat} (h : n < 2 ^ k) (hk : 0 < k) : n.log2 < k := by
  by_cases h0 : n = 0
  · subst h0
    simpa using hk
  · exact (Nat.log2_lt h0).mpr h
theorem mul_ok {mk : Bool} {i j : Int} {M : Mem} {a b : Nat} (h : i.natAbs < 2 ^ a) (h2 : j.natAbs < 2 ^ b) (hs : a + b < 900000) : mulD mk (.p (.int i)) (.p (.int j)) M = .ok (.p (.int (i * j))) M := by
  refine mulD_int ?_
  have l1 := log_lt (Nat.lt_of_lt_of_le h (Nat.pow_le_pow_right (by decide) (Nat.le_succ a))) (Nat.succ_pos a)
  have l2 := log_lt (Nat.lt_of_lt_of_le h2 (Nat.pow_le_pow_right (by decide) (Nat.le_succ b))) (Nat.succ_pos b)
  omega
theorem div_ok {i j : Int} {M : Mem} {b : Nat} (h : 0 < j) (h2 : j.natAbs < 2 ^ b) (hs : b < 8999) : fdivD (.p (.int i)) (.p (.int j)) M = .ok (.p (.int (i / j))) M := by
  refine fdivD_int h ?_
  have l2 := log_lt (Nat.lt_of_lt_of_le h2 (Nat.pow_le_pow_right (by decide) (Nat.le_succ b))) (Nat.succ_pos b)
  omega
end FW
/-! FwQ: how long a repr is; walks of plain loops. -/
namespace FW
open PySem PySem.Spec PyProof.Rows L2
mutual
/-- at least as many signs as repr shows -/
def wd : P → Nat
  | .int i => i.natAbs.log2 + 3
  | .tup ds => wdL ds + 4
  | .lst ds => wdL ds + 4
  | _ => 5
def wdL : List P → Nat
  | [] => 0
  | d :: ds => wd d + 2 + wdL ds
end
mutual
/-- of numbers, truth values, None alone -/
def numP : P → Bool
  | .non => true
  | .bl _ => true
  | .int _ => true
  | .tup ds => numPL ds
  | .lst ds => numPL ds
  | _ => false
def numPL : List P → Bool
  | [] => true
  | d :: ds => numP d && numPL ds
end
def pile : List Str → Nat
  | [] => 0
  | t :: r => t.length + 2 + pile r
theorem textFrom_up : ∀ (ts : List Str) (k : Nat) (acc : Str), (textFrom k acc ts).length ≤ acc.length + pile ts
  | [], k, acc => by
    show acc.length ≤ acc.length + 0
    omega
  | t :: r, k, acc => by
    have h := textFrom_up r (k + 1) (acc ++ (if k > 0 then ", " else "" : String) ++ t)
    have e : (acc ++ (if k > 0 then ", " else "" : String) ++ t).length ≤ acc.length + 2 + t.length := by
      rw [strLen_append, strLen_append]
      split
      · exact Nat.le_refl _
      · show acc.length + 0 + t.length ≤ _
        omega
    show (textFrom (k + 1) _ r).length ≤ acc.length + (t.length + 2 + pile r)
    omega
theorem pile_piled : ∀ ts : List Str, pile ts = piled ts
  | [] => rfl
  | t :: r => by
    show t.length + 2 + pile r = _
    rw [pile_piled r, piled_cons]
theorem listText_up (ts : List Str) : (listText ts).length ≤ pile ts + 2 := by
  unfold listText
  have := textFrom_up ts 0 "["
  rw [strLen_append]
  have e1 : (("[" : String) : Str).length = 1 := rfl
  have e2 : (("]" : String) : Str).length = 1 := rfl
  omega
theorem tupleText_up (ts : List Str) : (tupleText ts).length ≤ pile ts + 3 := by
  unfold tupleText
  rw [strLen_append, strLen_append]
  have e1 : (("(" : String) : Str).length = 1 := rfl
  have e3 : (((if ts.length == 1 then ",)" else ")" : String) : Str)).length ≤ 2 := by split <;> decide
  rw [e1]
  by_cases h : ts = []
  · subst h
    have : (Str.join ", " ([] : List Str)).length = 0 := rfl
    omega
  · have := join_length_add ts h
    rw [pile_piled]
    omega
theorem int_up (i : Int) : (shownP (.int i)).length ≤ i.natAbs.log2 + 3 := by
  show (Str.ofString (toString i)).length ≤ _
  rw [PySem.ofString_length]
  have := PySem.int_text_length_le (k := i.natAbs.log2 + 1) (a := i) (Nat.succ_pos _) (Nat.lt_succ_self _)
  omega
mutual
theorem shown_up : ∀ a : P, numP a = true → (shownP a).length ≤ wd a
  | .non, _ => by decide
  | .bl true, _ => by decide
  | .bl false, _ => by decide
  | .int i, _ => int_up i
  | .tup ds, h => by
    have := shown_upL ds h
    have := tupleText_up (PyData.shownAll (toPyL ds))
    show (tupleText (PyData.shownAll (toPyL ds))).length ≤ wdL ds + 4
    omega
  | .lst ds, h => by
    have := shown_upL ds h
    have := listText_up (PyData.shownAll (toPyL ds))
    show (listText (PyData.shownAll (toPyL ds))).length ≤ wdL ds + 4
    omega
theorem shown_upL : ∀ a : List P, numPL a = true → pile (PyData.shownAll (toPyL a)) ≤ wdL a
  | [], _ => Nat.le_refl _
  | d :: ds, h => by
    unfold numPL at h
    rw [Bool.and_eq_true] at h
    have h1 := shown_up d h.1
    have h2 := shown_upL ds h.2
    show (shownP d).length + 2 + pile (PyData.shownAll (toPyL ds)) ≤ wd d + 2 + wdL ds
    omega
end
theorem repr_some {a : P} (h1 : okN 60 a = true) (h2 : showP a = true) (h3 : numP a = true) (h4 : wd a ≤ 100000) : ∃ s, reprP a = some s := by
  have := shown_up a h3
  refine ⟨_, if_pos ?_⟩
  unfold okR
  rw [Bool.and_eq_true]
  refine ⟨?_, Nat.ble_eq_true_of_le (by omega)⟩
  cases a <;> first | (simp only [h1, h2]; rfl) | simp [okN] at h1
theorem eqNs_refl (s : List Nat) : eqNs s s = true := by rw [eqNs_eq]; exact beq_self_eq_true s
@[simp] theorem eqD_str (g : Bool) (a b : List Nat) (M : Mem) : eqD g (.p (.str a)) (.p (.str b)) M = .ok (.p (.bl (if g then !eqNs a b else eqNs a b))) M := rfl
@[simp] theorem z_repr (a : P) (M : Mem) : reprD [.p a] M = (match reprP a with
  | some s => .ok (.p (.str s)) M
  | none => .bad) := rfl
/-- a fraction's repr is short -/
theorem wd_nm {k : Nat} {q : Rat} (h : Sz k q) : wd (nm q) ≤ 2 * k + 16 := by
  have h1 : q.num.natAbs.log2 ≤ k := by
    by_cases hk : 0 < k
    · exact Nat.le_of_lt (log_lt h.1 hk)
    · have : k = 0 := by omega
      subst this
      have := h.1
      have e : q.num.natAbs = 0 := by omega
      rw [e]; decide
  have h2 : (q.den : Int).natAbs.log2 ≤ k := by
    rw [Int.natAbs_natCast]
    by_cases hk : 0 < k
    · exact Nat.le_of_lt (log_lt h.2 hk)
    · have : k = 0 := by omega
      subst this
      have := h.2
      have e : q.den = 0 := by omega
      rw [e]; decide
  show q.num.natAbs.log2 + 3 + 2 + ((q.den : Int).natAbs.log2 + 3 + 2 + 0) + 4 ≤ _
  omega
theorem show_nm {k : Nat} {q : Rat} (h : Sz k q) (hk : k ≤ 1900) : showP (nm q) = true := by
  have h0 := h.mono hk
  have h1 := log_lt h0.1 (by decide)
  have h2 := log_lt h0.2 (by decide)
  show (Nat.blt _ _ && (Nat.blt _ _ && true)) = true
  rw [Int.natAbs_natCast]
  simp only [Bool.and_true, Bool.and_eq_true]
  exact ⟨Nat.ble_eq_true_of_le (by omega), Nat.ble_eq_true_of_le (by omega)⟩
/-- a loop that goes through -/
theorem for_inv {g : SG} {b : SS} {rt : Rt} (I : List P → Slots → Mem → Prop) (hs : ∀ d ds δ M, I (d :: ds) δ M → ∃ δ1, g (.p d) δ M = some δ1 ∧ ∃ δ2 M2, b rt δ1 M = .nx δ2 M2 ∧ I ds δ2 M2) :
    ∀ (ds : List P) (δ : Slots) (M : Mem), I ds δ M → ∃ δ' M', forSeq g b rt ds δ M = .nx δ' M' ∧ I [] δ' M'
  | [], δ, M, h => ⟨δ, M, rfl, h⟩
  | d :: ds, δ, M, h => by
    obtain ⟨δ1, h1, δ2, M2, h2, h3⟩ := hs d ds δ M h
    obtain ⟨δ', M', h4, h5⟩ := for_inv I hs ds δ2 M2 h3
    refine ⟨δ', M', ?_, h5⟩
    rw [z_for1, h1]
    show (b rt δ1 M).loop _ = _
    rw [h2]
    exact h4
/-- a comprehension that goes through -/
theorem lc_inv {g : SG} {te : SE} {rt : Rt} {δ : Slots} (I : List P → List P → Mem → Prop) (hs : ∀ d ds acc M, I (d :: ds) acc M → ∃ y M2, (match g (.p d) δ M with
      | none => RE.bad
      | some δ2 => te rt δ2 M) = .ok (.p y) M2 ∧ acc.length ≤ 100000 ∧ I ds (acc ++ [y]) M2) :
    ∀ (ds acc : List P) (M : Mem), I ds acc M → ∃ acc' M', lcSeq g yesT te rt δ ds acc M = some (acc', M') ∧ I [] acc' M'
  | [], acc, M, h => ⟨acc, M, rfl, h⟩
  | d :: ds, acc, M, h => by
    obtain ⟨y, M2, h1, h2, h3⟩ := hs d ds acc M h
    obtain ⟨acc', M', h4, h5⟩ := lc_inv I hs ds (acc ++ [y]) M2 h3
    refine ⟨acc', M', ?_, h5⟩
    rw [z_lc1]
    have hl : small acc.length = true := Nat.ble_eq_true_of_le h2
    unfold lcTurn
    cases hg : g (.p d) δ M with
    | none =>
      rw [hg] at h1
      cases h1
    | some δ2 =>
      rw [hg] at h1
      simp only at h1
      simp [h1, hl, h4]
theorem seq_nx {a b : SS} {rt : Rt} {δ δ' : Slots} {M M' : Mem} (h : a rt δ M = .nx δ' M') : seqS a b rt δ M = b rt δ' M' := by
  unfold seqS
  rw [h]
end FW
/-! FxA: an own exception over a built-in one, whose __init__ says super().__init__(..) and keeps its argument. -/
namespace FW
open PySem PySem.Spec PyProof.Rows L2 PySem.W PySem.Calls
/-- h' has all that h has -/
def Grows (h h' : Heap) : Prop := ∀ b o, h.get? b = some o → h'.get? b = some o
theorem Grows.refl (h : Heap) : Grows h h := fun _ _ e => e
theorem Grows.trans {a b c : Heap} (x : Grows a b) (y : Grows b c) : Grows a c := fun d o e => y d o (x d o e)
theorem grows_push (h : Heap) (o : Obj) : Grows h (h.push o) := fun _ _ e => Heap.get?_push_of_some _ e
/-- the argument of super().__init__: it ends, wherever the value u stands at the name par -/
def ArgOk (P : Program) (w : World) (h : Heap) (arg : Expr) (par : Str) (u : Value) : Prop :=
  ∀ (A : Around) (E : Value → Shared → Prop) (env : Env) (s : Shared) (m : Str → Option Value) (Q : Value → Shared → Prop), A.guards = some [] → A.units + 70 < cLine → Grows h s.heap → env.scope.kind = .function → env.kindOf par = some .local → s.heap.Ns env.locals m → m par = some u →
    (∀ v h' tk, Grows s.heap h' → Q v { s with heap := h', toks := tk }) → wpAny (model P w) A (eval arg env) Q E s
/-- what the written part says of such a class: x its parameter, f its field -/
structure SupC (P : Program) (K : Frag) (mg : Str → Option Value) (C : Addr) (arg : Expr) (par f : Str) : Prop where
  ex : ∃ (B newId initId : String) (bmB : List Value), ExcBaseFacts B newId initId bmB ∧ KxsFacts B initId ∧ StoreFacts B bmB "object.__setattr__" "object" ∧ excInitIn K C bmB newId = true ∧ excOver K C bmB = true ∧
    ks_superIn K C C "__init__" = some (some (.builtin initId)) ∧ subIn K (.ref C) (.type B) = some true
  kC : keepIn K (.ref C) = true
  sa : findIn K (.ref C) "__setattr__" = some (some (.builtin "object.__setattr__"))
  tk : takerIn K C f = some none
  hd : hasDictIn K C = true
  exC : subIn K (.ref C) (.type "BaseException") = some true
  tyC : typeIn K (.ref C) = some (.type "type")
  cl : ∃ cdD, clsIn K C = some cdD
  self : mroIn K C (.ref C) = some true
  opq : nsIn K cStatics "thirdparty.any" = some none
  sup : mg "super" = none
  top : (P.main.scope.names.lookup ("super" : Str)).isSome = false
  init : ∃ (fI cc cda : Addr) (oc dV kV doc pm ct ccl cl : Value) (od an cdd cld : Option Addr) (osl ccs csl : Array (Option Value)) (qual : Str) (params : Arguments) (scope : Scope) (vs : Array Value) (file : Str) (tf : Tok) (p0 p1 p2 p3 p4 p5 p6 p7 p8 : Pos) (a1 a2 : Arg),
    findIn K (.ref C) "__init__" = some (some (.ref fI)) ∧ oc = .type "function" ∧
    K.lookup fI = some ⟨oc, od, .func (ksFn "__init__" qual params [.Expr (.Call (.Attribute (.Call (.Name "super" p0) [] [] p1) "__init__" p2) [arg] [] p3) p4, .Assign [.Attribute (.Name "self" p5) f p6] (.Name par p7) p8] scope dV kV doc pm an (.ref cda) ct cc), osl⟩ ∧
    codeIn K (.ref cda) qual = true ∧ K.lookup cda = some ⟨ccl, cdd, .fields vs, ccs⟩ ∧ vs[2]? = some (.str file tf) ∧ ((P.main.file : Str) == file) = true ∧ K.lookup cc = some ⟨cl, cld, .cell (some (.ref C)), csl⟩ ∧
    params = ⟨[], [a1, a2], none, [], [], none, []⟩ ∧ a1.arg = "self" ∧ a2.arg = par ∧ a1.arg ≠ a2.arg ∧
    scope.names.lookup ("self" : Str) = some NameKind.local ∧ scope.names.lookup par = some NameKind.local ∧ scope.names.lookup ("super" : Str) = some NameKind.globalImplicit ∧ scope.names.lookup ("__class__" : Str) = some NameKind.free ∧ (∀ y ∈ scope.names, y.2 ≠ NameKind.cell) ∧ scope.kind = .function ∧ scope.isCoroutine = false ∧ scope.isGenerator = false ∧ (par == ("__debug__" : Str)) = false ∧ (p2.endLine == p3.line) = true ∧
    ∀ a b : Value, bindArgs (ksFn "__init__" qual params [.Expr (.Call (.Attribute (.Call (.Name "super" p0) [] [] p1) "__init__" p2) [arg] [] p3) p4, .Assign [.Attribute (.Name "self" p5) f p6] (.Name par p7) p8] scope dV kV doc pm an (.ref cda) ct cc) ⟨[a, b], []⟩ = (pure [(("self" : Str), a), (par, b)] : Sem (List (Str × Value)))
/-- super().__init__(arg): its parts -/
theorem sup_form {env : Env} {arg : Expr} {p0 p1 p2 p3 : Pos} (hs : notStar arg = true) (hl : (p2.endLine == p3.line) = true) : eval (.Call (.Attribute (.Call (.Name "super" p0) [] [] p1) "__init__" p2) [arg] [] p3) env = (do
      let ov ← attributeBase (.Call (.Name "super" p0) [] [] p1) "__init__" env (eval (.Call (.Name "super" p0) [] [] p1) env)
      standAt p2.atName
      let (f, first) ← holding [ov] (getMethod ov "__init__" (do return (← importBound (.Call (.Name "super" p0) [] [] p1) env).getD true))
      callWith p3 f first (backTo p3 (starEach [arg] env)) []) := by
  have e1 : eval (.Call (.Attribute (.Call (.Name "super" p0) [] [] p1) "__init__" p2) [arg] [] p3) env = (do
      let ov ← attributeBase (.Call (.Name "super" p0) [] [] p1) "__init__" env (eval (.Call (.Name "super" p0) [] [] p1) env)
      standAt p2.atName
      methodCall (.Call (.Name "super" p0) [] [] p1) "__init__" p2 p3 env ov 1 (backTo p3 (starEach [arg] env)) []) := rfl
  have e2 : ∀ b, methodCallPos b (.Call (.Name "super" p0) [] [] p1) env p2 p3 = pure p3 := fun b => by
    unfold methodCallPos
    rw [hl, Bool.or_true]
    rfl
  rw [e1, star1 hs]
  unfold methodCall
  simp only [e2]
  rfl
/-- the bound built-in __init__, called -/
theorem call_mw {P : Program} {w : World} {A : Around} {E : Value → Shared → Prop} {h : Heap} {g : Array GenState} {d : Drawn} {t : Nat} {os : OsState} {B newId i : String} {bmB : List Value} {K : Frag} {C u x t0 : Addr} {us : List Value} {Q : Value → Shared → Prop}
    (FB : ExcBaseFacts B newId i bmB) (X : K.In h) (q : excInitIn K C bmB newId = true) (hu : h.get? u = some (kxs_mw i x)) (hx : h.get? x = some (excObj C t0 none .none)) (hz : us.length ≤ sizeLine)
    (hq : ∀ h' t1, (∀ b o, b ≠ x → h.get? b = some o → h'.get? b = some o) → h'.get? x = some (excObj C t1 none .none) → Q .none ⟨h', g, d, t, os⟩) :
    wpAny (model P w) A (call (.ref u) us) Q E ⟨h, g, d, t, os⟩ := by
  obtain ⟨nm, N', qn, bs, bm, hdct, sn, sub, ab, col, dd, k0, k1, k2, k3, k5, hC, hT⟩ := excInit_of X q
  refine wpAny_call (codeAny_of_tree (show wpAny _ A.in1 (callAny (.ref u) ⟨us, []⟩) _ _ _ from ?_))
  simp only [callAny]
  refine wpAny_bind (wpAny_load hu ?_)
  simp only [kxs_mw, show ∀ b c : Bool, ((b || c) || (Value.type "method-wrapper" == Value.type "method-wrapper")) = true from fun b c => by cases b <;> cases c <;> decide, if_true]
  refine KFB.if_so (by decide) (wpAny_bind (check_bound_init FB.toExcCallFacts hC hx rfl (wpAny_bind (wpAny_pure (wpAny_pure ⟨plainId_quiet FB.init.plain _, codeAny_builtin FB.initEntry ?_⟩)))))
  exact exc_init_tree (cls := .ref C) (t0 := t0) (dv := none) (c2 := .none) (c3 := .none) (b4 := .bool false) hx hz fun h' k e _ => hq h' _ k e
/-- self.f = v, the first one -/
theorem set_first {P : Program} {w : World} {A : Around} {E : Value → Shared → Prop} {h : Heap} {g : Array GenState} {d : Drawn} {t : Nat} {os : OsState} {B : String} {bmB : List Value} {K : Frag} {C x t0 : Addr} {f : Str} {v : Value} {Q : Unit → Shared → Prop}
    (SF : StoreFacts B bmB "object.__setattr__" "object") (X : K.In h) (ov : excOver K C bmB = true) (sa : findIn K (.ref C) "__setattr__" = some (some (.builtin "object.__setattr__"))) (tk : takerIn K C f = some none) (hd : hasDictIn K C = true) (hx : h.get? x = some (excObj C t0 none .none))
    (hq : ∀ h' dx tk', (∀ b o, b ≠ x → h.get? b = some o → h'.get? b = some o) → h.objs.size ≤ dx → dx ≠ x → h'.get? x = some (excObj C t0 (some dx) .none) → h'.Ns1 dx (fun y => if y = f then some v else none) → Q () ⟨h', g, d, tk', os⟩) :
    wpAny (model P w) A (setAttr (.ref x) f v) Q E ⟨h, g, d, t, os⟩ := by
  obtain ⟨cd, hc, hd'⟩ := any_some hd
  have hxs : x ≠ h.objs.size := Nat.ne_of_lt (Heap.lt_size hx)
  refine set_plain (od := none) X ⟨hx, rfl, rfl, trivial⟩ sa (osa_openX (od := none) SF X ⟨hx, rfl, rfl, trivial⟩ ov tk fun b => ?_)
  refine wpAny_bind (wpAny_pure (wpAny_bind (instanceDict_exc hx (looks_clsIn X hc) hd' ?_)))
  show wpAny _ _ (Builtin.ObjectAttr.storeInDict h.objs.size _ f v) _ _ _
  have hx1 : (h.push (dictOf [] 0)).get? x = some (excObj C t0 none .none) := Heap.get?_push_of_some _ hx
  refine HandSPX.store_in_new ?_ fun h' tk' hn hs => ?_
  · exact ⟨_, #[], _, (Heap.get?_update_ne _ _ _ _ hxs.symm).trans (Heap.get?_push_at rfl rfl), rfl, fun e he => absurd he (by simp), fun _ => rfl⟩
  · refine hq h' _ _ (fun b o hb ho => ?_) (Nat.le_refl _) hxs.symm ?_ hn
    · exact (hs.2 b (Nat.ne_of_lt (Heap.lt_size ho))).trans ((Heap.get?_update_ne _ _ _ _ hb).trans (Heap.get?_push_of_some _ ho))
    · exact (hs.2 x hxs).trans (Heap.get?_update_self _ hx1 rfl)
theorem make_guards {A : Around} {C : Addr} {us : List Value} {kw : List (Str × Value)} : (A.under (.builtin "type.__call__" ⟨.ref C :: us, kw⟩)).guards = A.guards := by
  first | rfl | simp [Around.under, Code.weight, Code.isCreation, Code.isGuard, Code.isCaller, Code.frames, Code.isFrame, guardIds]
theorem call_sup {P : Program} {w : World} {A : Around} {E : Value → Shared → Prop} {h : Heap} {g : Array GenState} {d : Drawn} {t : Nat} {os : OsState} {K : Frag} {mg : Str → Option Value} {base : Heap} {C : Addr} {arg : Expr} {par f : Str} {u : Value} {k : Nat} {Q : Value → Shared → Prop}
    (S : SupC P K mg C arg par f) (M : L2.Mod K mg base) (kb : Grows base h) (ha : ArgOk P w h arg par u) (hs : notStar arg = true) (hr : RoomG (k + 3) A)
    (hq : ∀ h' t' tk e dx, Grows h h' → h.objs.size ≤ e → h.objs.size ≤ dx → dx ≠ e → h'.get? e = some (excObj C t' (some dx) .none) → h'.Ns1 dx (fun y => if y = f then some u else none) → Q (.ref e) ⟨h', g, d, tk, os⟩) :
    wpAny (model P w) A (call (.ref C) [u]) Q E ⟨h, g, d, t, os⟩ := by
  obtain ⟨B, newId, initId, bmB, FB, KF, SF, q, ov, hm, hB⟩ := S.ex
  obtain ⟨fI, cc, cda, oc, dV, kV, doc, pm, ct, ccl, cl, od, an, cdd, cld, osl, ccs, csl, qual, params, scope, vs, file, tf, p0, p1, p2, p3, p4, p5, p6, p7, p8, a1, a2, iC, ioc, lk, hcd, lcd, hvs, hfile, lcc, hpar, ha1, ha2, hne, ns1, ns2, ns3, ns4, hcell, hk, hco, hgen, hdb, hline, hbi⟩ := S.init
  subst ioc hpar
  have X : K.In h := M.kin.keeps kb
  have hC := excInit_of X q
  obtain ⟨nm, N', qn, bs, bm, hdct, sn, sub, ab, col, dd, k0, k1, k2, k3, k5, hC, hT⟩ := hC
  have hi' : Looks (model P w) h (typeLookup (.ref C) "__init__") (some (.ref fI)) := looks_findIn X iC
  refine wpAny_call (HandSPX.call_own FB hT hC hi' (fun self => exc_bind (X _ _ lk) rfl self) (by show 1 ≤ sizeLine; rw [sizeLine_eq]; omega) ?_)
  have hge : Grows h ((h.push (kdv_tup [u])).push (HandSPX.excO C h.objs.size)) := (grows_push _ _).trans (grows_push _ _)
  have hsz : ((h.push (kdv_tup [u])).push (HandSPX.excO C h.objs.size)).objs.size = h.objs.size + 2 := by rw [Heap.size_push, Heap.size_push]
  have he0 : ((h.push (kdv_tup [u])).push (HandSPX.excO C h.objs.size)).get? (h.objs.size + 1) = some (excObj C h.objs.size none .none) := by heap_get
  generalize hh1 : (h.push (kdv_tup [u])).push (HandSPX.excO C h.objs.size) = h1 at hge hsz he0 ⊢
  obtain ⟨e, heq⟩ : ∃ e, e = h.objs.size + 1 := ⟨_, rfl⟩
  rw [← heq] at he0 ⊢
  have X1 : K.In h1 := X.keeps hge
  have lt : ∀ b o, h.get? b = some o → b ≠ e := fun b o z => Nat.ne_of_lt (Nat.lt_of_lt_of_le (Heap.lt_size z) (by rw [heq]; exact Nat.le_succ _))
  refine ks_codeAny_call_defAt (fd := ksFn "__init__" qual ⟨[], [a1, a2], none, [], [], none, []⟩ _ scope dV kV doc pm an (.ref cda) ct cc) (binds := [(("self" : Str), .ref e), (par, u)]) (hr.r.make C [u] []).depth (X1 _ _ lk) rfl ((M.nolimit.keeps kb).keeps hge) (codeRec_of X1 hcd) rfl ?bind hcell ?loc (fun h2 hns g2 => ?_) hco hgen hk
  case bind => exact BindsTo.of_eq (hbi _ _)
  case loc =>
    intro y hy
    rcases List.mem_cons.mp hy with rfl | hy
    · exact ns1
    · rcases List.mem_cons.mp hy with rfl | hy
      · exact ns2
      · cases hy
  show _root_.PySem.wpAt (model P w) _ (.func _ (ksEnv qual scope h1.objs.size fI (.ref cda) cc)) (execs _ (ksEnv qual scope h1.objs.size fI (.ref cda) cc)) _ _ _
  have X2 : K.In h2 := X1.keeps g2
  have b2 : Grows base h2 := (kb.trans hge).trans g2
  have he2 : h2.get? e = some (excObj C h.objs.size none .none) := g2 _ _ he0
  obtain ⟨cdD, hcd2⟩ := S.cl
  obtain ⟨oD, hD1, hD2⟩ : ∃ oD, h2.get? C = some oD ∧ oD.data = .cls cdD := by
    unfold clsIn at hcd2
    split at hcd2
    · rename_i c d cd' sl ho
      cases hcd2
      exact ⟨_, X2 _ _ ho, rfl⟩
    · cases hcd2
  have I2 : InstAt h2 e (excObj C h.objs.size none .none) C none := ⟨he2, rfl, rfl, trivial⟩
  obtain ⟨mb, mb1, mb2⟩ := M.blt
  have m1 : (fun x => ([(("self" : Str), Value.ref e), (par, u)] : List (Str × Value)).reverse.lookup x) "self" = some (.ref e) := by
    rw [ha1, ha2] at hne
    have e0 : (("self" : Str) == par) = false := by simpa using hne
    show (match ("self" : Str) == par with
      | true => some u
      | false => (match ("self" : Str) == ("self" : Str) with
        | true => some (.ref e)
        | false => none)) = _
    rw [e0]
    simp
  have m2 : (fun x => ([(("self" : Str), Value.ref e), (par, u)] : List (Str × Value)).reverse.lookup x) par = some u := by
    show (match par == par with
      | true => some u
      | false => _) = _
    simp
  refine ks_wpAt_execs_cons (ks_wpAt_Expr_any (ks_wpAt_MethodCall (ks_wpAt_super_base (env := ksEnv qual scope h1.objs.size fI (.ref cda) cc) (f := fI) (cc := cda) ns3 ns4 (by decide) rfl (X2 _ _ lk) rfl rfl rfl (X2 _ _ lcd) rfl hvs hfile S.top ?_) (sup_form hs hline)) ?hi ?hs)
  case hi =>
    show (scope.kind == .module && _) = false
    rw [hk]
    rfl
  case hs => rfl
  refine ks_loadName_global hk ns3 (loadGlobal_builtin (env := ksEnv qual scope h1.objs.size fI (.ref cda) cc) (M.glob.keeps b2) S.sup (mb1.keeps b2) ((mb2 _ (by decide)).trans (by decide +kernel)) ⟨rfl, ?_⟩)
  refine wpAny_loadName_free hk ns4 rfl ⟨_, X2 _ _ lcc, rfl⟩ ?_
  rw [ha1]
  refine wpAny_loadName_local hk ns1 hns m1 ?_
  refine ks_wpAny_isType_cls hD1 hD2 ⟨rfl, ?_⟩
  refine ks_wpAny_call_super hD1 hD2 he2 rfl (fun c z => by cases z) (looks_mroIn X2 S.self) fun h3 hso g3 => ?_
  have X3 : K.In h3 := X2.keeps g3
  have he3 := g3 _ _ he2
  have I3 : InstAt h3 e (excObj C h.objs.size none .none) C none := ⟨he3, rfl, rfl, trivial⟩
  have hI : Looks (model P w) h3 (isInstance (.ref e) (.type B)) true := I3.type.andThen (looks_subIn X3 hB)
  have hal : alongIn K "__init__" ((cdD.mro.dropWhile (· != .ref C)).drop 1) = some (some (.builtin initId)) := by
    unfold ks_superIn at hm
    rw [hcd2] at hm
    exact hm
  refine kxs_getMethod KF hso (looks_opaque X3 S.opq) (l₀ := cdD.mro) (fun A Q E s k q => wpAny_bind ((looks_clsIn X3 hcd2) A _ E s k (wpAny_pure q))) rfl X3 hal hI (ks_ne X3 I3 hcd2) (by decide) ?_
  have g4 : Grows h3 (h3.push (kxs_mw initId e)) := grows_push _ _
  have hmw : (h3.push (kxs_mw initId e)).get? h3.objs.size = some (kxs_mw initId e) := Heap.get?_push_at rfl rfl
  generalize (h3.push (kxs_mw initId e)) = h4 at g4 hmw ⊢
  have gg : Grows h2 h4 := fun b o z => g4 _ _ (g3 _ _ z)
  rw [star1 hs]
  refine kxs_callWith (i := initId) (x := e) rfl (evalArgs_plain (Calls.spliced_cons ?_))
  show wpAny _ _ (eval arg (ksEnv qual scope h1.objs.size fI (.ref cda) cc)) _ _ _
  have hns4 : h4.Ns h1.objs.size (fun x => ([(("self" : Str), Value.ref e), (par, u)] : List (Str × Value)).reverse.lookup x) := hns.keeps gg
  refine ha _ _ (ksEnv qual scope h1.objs.size fI (.ref cda) cc) _ _ _ ?_ ?_ (((hge.trans g2).trans gg)) hk ns2 hns4 m2 fun v h5 tk5 g5 => ?_
  · exact (make_guards (A := A) (C := C) (us := [u]) (kw := [])).trans hr.g
  · have z := (hr.r.make C [u] []).un
    have z2 : (A.under (.builtin "type.__call__" ⟨.ref C :: [u], []⟩)).units + 3 + 70 < cLine := by omega
    exact z2
  refine Calls.spliced_nil ⟨?_, ?_⟩
  · exact g5 _ _ hmw
  have X5 : K.In h5 := (X3.keeps g4).keeps g5
  refine call_mw FB X5 q (g5 _ _ hmw) (g5 _ _ (g4 _ _ he3)) (by show 1 ≤ sizeLine; rw [sizeLine_eq]; omega) fun h6 t1 k6 he6 => ?_
  have g6 : ∀ b o, b ≠ e → h2.get? b = some o → h6.get? b = some o := fun b o hb z => k6 b o hb (g5 _ _ (gg _ _ z))
  have X6 : K.In h6 := fun a o z => by
    refine g6 a o (lt _ _ (X _ _ z)) (X2 _ _ z)
  have hns6 : h6.Ns h1.objs.size (fun x => ([(("self" : Str), Value.ref e), (par, u)] : List (Str × Value)).reverse.lookup x) := by
    obtain ⟨oL, es, ep, ho, r⟩ := hns
    exact ⟨oL, es, ep, g6 _ _ (Nat.ne_of_gt (Heap.lt_size he0)) ho, r⟩
  show _root_.PySem.wpAt _ _ _ (execs _ _) _ _ _
  refine ks_wpAt_execs_cons (wpAt_of_wpAny (plainObj_wpAny_Assign_Attribute ?_))
  refine wpAny_Name (wpAny_loadName_local hk ns2 hns6 m2 ?_) hdb
  refine wpAny_Name (wpAny_loadName_local hk ns1 hns6 m1 ?_) (by decide)
  refine set_first SF X6 ov S.sa S.tk S.hd he6 fun h7 dx tk7 k7 hdx hne7 he7 hn7 => ?_
  refine wpAt_of_wpAny (wpAny_pure ⟨rfl, ?_⟩)
  have g7 : Grows h h7 := fun b o z => k7 b o (lt b o z) (g6 b o (lt b o z) (g2 _ _ (hge _ _ z)))
  refine hq h7 t1 tk7 e dx g7 (by rw [heq]; exact Nat.le_succ _) (Nat.le_trans ?_ hdx) hne7 he7 hn7
  have z := Heap.lt_size he6
  rw [heq] at z
  exact Nat.le_of_lt (Nat.lt_of_le_of_lt (Nat.le_succ _) z)
end FW
/-! FxB: what such an __init__ says to super, by the argument's data. -/
namespace FW
open PySem PySem.Spec PyProof.Rows L2 PySem.W PySem.Calls
/-- a part of an f-string: a text of at most n signs, wherever the value u stands at the name par -/
def PartOk (P : Program) (w : World) (h : Heap) (par : Str) (u : Value) (e : Expr) (n : Nat) : Prop :=
  ∀ (A : Around) (E : Value → Shared → Prop) (env : Env) (s : Shared) (m : Str → Option Value) (Q : Value → Shared → Prop), A.guards = some [] → A.units + 70 < cLine → Grows h s.heap → env.scope.kind = .function → env.kindOf par = some .local → s.heap.Ns env.locals m → m par = some u →
    (∀ x t h' tk, x.length ≤ n → Grows s.heap h' → Q (.str x t) { s with heap := h', toks := tk }) → wpAny (model P w) A (eval e env) Q E s
/-- repr of the value -/
def ReprAt (P : Program) (w : World) (h : Heap) (u : Value) (n : Nat) : Prop :=
  ∀ (A : Around) (E : Value → Shared → Prop) (s : Shared) (Q : Value → Shared → Prop), A.guards = some [] → A.units + 70 < cLine → Grows h s.heap →
    (∀ x t h' tk, x.length ≤ n → Grows s.heap h' → Q (.str x t) { s with heap := h', toks := tk }) → wpAny (model P w) A (pyReprObj u) Q E s
section
variable {P : Program} {w : World} {h : Heap} {par : Str} {u : Value}
theorem part_const {t : Str} {n : Nat} {j pos} (ht : t.length ≤ n) : PartOk P w h par u (.Constant (.str t) j pos) n := fun A E env s m Q _ _ _ _ _ _ _ q =>
  wpAny_Constant_str (q t _ s.heap _ ht (Grows.refl _))
theorem part_repr {n : Nat} {p q : Pos} (hn : n ≤ 1000000) (hdb : (par == ("__debug__" : Str)) = false) (hr : ReprAt P w h u n) : PartOk P w h par u (.FormattedValue (.Name par p) 114 none q) n := fun A E env s m Q hg hu gr hk hl hns hm k => by
  refine wpAny_FormattedValue_repr (wpAny_Name (wpAny_loadName_local hk hl hns hm ?_) hdb)
  refine hr A E s _ hg hu gr fun x t h' tk hx g' => ?_
  exact wpAny_formatField_str (k x t h' tk hx g') (k x _ h' _ hx g') (by rw [sizeLine_eq]; omega)
theorem joined2 {a b : Expr} {pos : Pos} {i j : Nat} (ha : PartOk P w h par u a i) (hb : PartOk P w h par u b j) (hz : i + j ≤ 1000000) : ArgOk P w h (.JoinedStr [a, b] pos) par u := fun A E env s m Q hg hu gr hk hl hns hm k => by
  refine wpAny_JoinedStr ?_
  have e0 : evalEach [a, b] env = [eval a env, eval b env] := by first | rfl | simp [evalEach]
  rw [e0]
  refine ha A E env s m _ hg hu gr hk hl hns hm fun x t h1 tk hx g1 => ⟨x, t, rfl, ?_, ?_⟩
  · rw [PySem.Str.empty_append, sizeLine_eq]; omega
  refine hb A E env { s with heap := h1, toks := tk } m _ hg hu (gr.trans g1) hk hl (hns.keeps g1) hm fun y t2 h2 tk2 hy g2 => ⟨y, t2, rfl, ?_, ?_⟩
  · rw [PySem.Str.empty_append, strLen_append, sizeLine_eq]; omega
  · refine ⟨?_, k _ h2 _ (g1.trans g2)⟩
    rw [PySem.Str.empty_append, strLen_append, sizeLine_eq]; omega
theorem arg_const {t : Str} {j pos} : ArgOk P w h (.Constant (.str t) j pos) par u := fun A E env s m Q _ _ _ _ _ _ _ q =>
  wpAny_Constant_str (q _ s.heap _ (Grows.refl _))
theorem repr_at {d : PyData} {as : List Addr} {n : Nat} (r : Reads h u d as) (hs : d.showable = true) (hd : d.hasDict = true → sysModules ∉ as) (hp : d.depth ≤ 64) (hz : d.shown.length ≤ n) (hn : n ≤ 1000000) : ReprAt P w h u n := fun A E s Q hg hu gr k => by
  cases r with
  | none => exact pyReprObj_none (k _ _ _ _ hz (Grows.refl _))
  | bool b => exact pyReprObj_bool (k _ _ _ _ hz (Grows.refl _))
  | int i t => exact pyReprObj_int (by simpa [PyData.showable] using hs) (k _ _ _ _ hz (Grows.refl _))
  | str y t => exact pyReprObj_str (k _ _ _ _ hz (Grows.refl _)) (by have : (reprText y).length ≤ n := hz; rw [sizeLine_eq]; omega)
  | list h1 h2 h3 h4 => exact pyReprObj_of_reads (.list h1 h2 h3 h4) hs hd hg (by omega) gr (fun h' t tk g => k _ _ _ _ hz g) (by rw [sizeLine_eq]; omega)
  | tuple h1 h2 h3 h4 => exact pyReprObj_of_reads (.tuple h1 h2 h3 h4) hs hd hg (by omega) gr (fun h' t tk g => k _ _ _ _ hz g) (by rw [sizeLine_eq]; omega)
  | dict h1 h2 h3 h4 h5 => exact pyReprObj_of_reads (.dict h1 h2 h3 h4 h5) hs hd hg (by omega) gr (fun h' t tk g => k _ _ _ _ hz g) (by rw [sizeLine_eq]; omega)
end
end FW
/-! FxC: raise, on data. -/
namespace FW
open PySem PySem.Spec PyProof.Rows L2
/-- what such an __init__ asks of the value: nothing, or that its repr is short -/
structure ArgK (P : Program) (w : World) (arg : Expr) (par : Str) (ak : Bool) : Prop where
  no : ak = false → ∀ h u, ArgOk P w h arg par u
  yes : ak = true → ∀ h u n, n ≤ 900000 → ReprAt P w h u n → ArgOk P w h arg par u
/-- a value's repr is short -/
def ShowV (K : PySem.W.Frag) (H : Hp) (v : V) : Prop := ∃ pd : PyData, ShowQ K H v pd ∧ pd.shown.length ≤ 100000
section
variable {X : Cx}
theorem pmk_sup {C : Addr} {x par f : Str} {arg e : Expr} {te : TE} {p pos : Pos} {k : Nat} {ak : Bool} (S : SupC X.prog X.K X.mg C arg par f) (hs : notStar arg = true) (A : ArgK X.prog X.w arg par ak) (hr : RoomG (k + 3) X.A) (hg : Gl X x) (hm : X.mg x = some (.ref C)) (he : PE X e te) (hse : notStar e = true)
    (hdb : (x == ("__debug__" : Str)) = false) :
    PMk X (.Call (.Name x p) [e] [] pos) (fun σ H Q => te σ H fun v H1 => (ak = true → ShowV X.K H1 v) ∧ ∀ d, H1 d = none → Q (.ref C) (some d) (upd H1 d (.xd [(f, v)]))) := by
  intro pins s σ H Q I h
  refine wpAny_Call_Name_kw (ld_glob I hg hm ?_ hdb)
  have ha : PA X [e] (tCons te tNil) := pa_cons he pa_nil (star_of hse)
  refine PySem.W.callWith_K (h₀ := X.base) I.ok.mod.kin S.kC (thn (ha.run pos pins s σ H (fun vs H1 => match vs with
      | [v] => (ak = true → ShowV X.K H1 v) ∧ ∀ d, H1 d = none → Q (.ref C) (some d) (upd H1 d (.xd [(f, v)]))
      | _ => False) I h) fun us s1 hh => ?_) (star_of hse) (by rfl)
  · obtain ⟨vs, H1, I1, r1, q⟩ := hh
    have q0 : ∃ v, vs = [v] ∧ (ak = true → ShowV X.K H1 v) ∧ ∀ d, H1 d = none → Q (.ref C) (some d) (upd H1 d (.xd [(f, v)])) := by
      split at q
      · exact ⟨_, rfl, q⟩
      · exact q.elim
    clear q
    obtain ⟨v, ev, hv, q⟩ := q0
    subst ev
    refine ⟨I1.kIn, ?_⟩
    obtain ⟨u, eu, ru⟩ : ∃ u, us = [u] ∧ RelV v u := by
      cases r1 with
      | cons ru rn =>
        cases rn
        exact ⟨_, rfl, ru⟩
    subst eu
    show wpAny _ _ (call (.ref C) [u]) _ _ _
    have hA : ArgOk X.prog X.w s1.heap arg par u := by
      cases hk : ak with
      | false => exact A.no hk _ _
      | true =>
        obtain ⟨pd, ⟨h2, h4, h1⟩, h5⟩ := hv hk
        obtain ⟨as, rd, h3⟩ := h1 X pins σ s1 u rfl I1 ru
        exact A.yes hk _ _ 100000 (by decide) (repr_at rd h2 h3 h4 h5 (by decide))
    obtain ⟨hp, g, dr, tk, os⟩ := s1
    refine call_sup S I1.mod I1.bk hA hs hr fun h' t' tk' a dx g1 h1 h2 h3 h4 h5 => ?_
    obtain ⟨G, g3, g4⟩ := restrict h' fun b => decide (b ≠ a)
    have gk : ∀ b, b ≠ a → G.get? b = h'.get? b := fun b hb => g3 b (decide_eq_true hb)
    have ge : G.get? a = none := g4 a (by simp)
    have nha : ∀ {b : Addr} {o : Obj}, hp.get? b = some o → b ≠ a := fun {b o} z => Nat.ne_of_lt (Nat.lt_of_lt_of_le (Heap.lt_size z) h1)
    have kk : ∀ b o, hp.get? b = some o → G.get? b = some o := fun b o z => by
      rw [gk b (nha z)]
      exact g1 b o z
    have nd : H1 dx = none := I1.hok.fresh h2
    have na : H1 a = none := I1.hok.fresh h1
    have J : Inv X pins σ (upd H1 dx (.xd [(f, v)])) ⟨G, g, dr, tk', os⟩ := I1.laid (t' := tk') (a := dx) (o := .xd [(f, v)]) (h' := G) kk h2 ⟨_, h5.at fun o z => (gk dx h3).trans z, relO_put (fs := []) ru fun _ => True.intro⟩
    refine ⟨a, _, _, ⟨G, g, dr, tk', os⟩, _, .ref C, some dx, rfl, J, fun b o z => ?_, ge, h4, ⟨rfl, rfl⟩, rfl, rfl, ?_, rfl, I1.bare, raises_own S.exC S.tyC, q dx nd⟩
    · by_cases hb : b = a
      · rw [hb, ge] at z
        cases z
      · exact (gk b hb).symm.trans z
    · rw [upd_ne (Ne.symm h3)]
      exact na
/-! ### raise -/
/-- an own class of the program: c its number; it takes a message -/
structure RaM (Pg : Program) (K : PySem.W.Frag) (mg : Str → Option Value) (Z : Am) (x : Str) (c : Nat) : Prop where
  ex : ∃ (C : Addr) (B newId initId : String) (bmB : List Value), Z.ca c = some C ∧ mg x = some (.ref C) ∧ ExcBaseFacts B newId initId bmB ∧ PySem.W.excIn K C bmB newId = true ∧ PySem.W.keepIn K (.ref C) = true ∧
    PySem.W.subIn K (.ref C) (.type "BaseException") = some true ∧ PySem.W.typeIn K (.ref C) = some (.type "type")
/-- one that keeps its argument -/
structure RaV (Pg : Program) (w : World) (K : PySem.W.Frag) (mg : Str → Option Value) (Z : Am) (x : Str) (c : Nat) (ak : Bool) : Prop where
  ex : ∃ (C : Addr) (arg : Expr) (par f : Str), Z.ca c = some C ∧ mg x = some (.ref C) ∧ SupC Pg K mg C arg par f ∧ notStar arg = true ∧ ArgK Pg w arg par ak ∧ Z.fl c = [f]
def raiseM (c : Nat) : SS := fun _ δ M => .exc ⟨c, none⟩ δ M
def raiseV (c : Nat) (ak : Bool) (e : SE) : SS := fun rt δ M => (e rt δ M).bindS δ fun d M1 => match d with
  | .p x => if !ak || okR x then .exc ⟨c, some x⟩ δ M1 else .bad
  | _ => .bad
variable {Z : Am} {rt : Rt} {W : WX} {n : Nat}
theorem ps_raiseM {x m : Str} {c j : Nat} {p p2 q pos : Pos} (C : Ct X Z W n) (R : RaM X.prog X.K X.mg Z x c) (hg : Gl X x) (nm : NmOk x) : PS X (.Raise (some (.Call (.Name x p) [.Constant (.str m) j p2] [] q)) none pos) (tS Z rt W (raiseM c)) := by
  obtain ⟨A, B, newId, initId, bmB, h1, h2, h3, h4, h5, h6, h7⟩ := R.ex
  refine PS.imp (ps_raise C.calm C.tk (pmk_own h3 h4 h2 h5 (raises_own h6 h7) hg nm.d)) fun E σ H ⟨ρ, M, δ, r, s, q⟩ => ?_
  exact q ρ σ (.ref A) none H Ext.refl r s ⟨A, rfl, h1, rfl⟩
theorem ps_raiseV {x : Str} {c : Nat} {ak : Bool} {e : Expr} {me : SE} {p q pos : Pos} (C : Ct X Z W (n + 3)) (R : RaV X.prog X.w X.K X.mg Z x c ak) (hg : Gl X x) (nm : NmOk x) (he : PE X e (tE Z rt W me)) (hs : notStar e = true) : PS X (.Raise (some (.Call (.Name x p) [e] [] q)) none pos) (tS Z rt W (raiseV c ak me)) := by
  obtain ⟨A, arg, par, f, h1, h2, h3, h4, h5, h6⟩ := R.ex
  refine PS.imp (ps_raise C.calm C.tk (pmk_sup h3 h4 h5 C.room hg h2 he hs nm.d)) fun E σ H ⟨ρ, M, δ, r, s, q⟩ => ?_
  refine tE.thn (useES (ρ0 := ρ) (H0 := H) r s Ext.refl q) fun v H1 ⟨ρ1, M1, d1, e1, r1, p1, q1⟩ => ?_
  split at q1
  · rename_i y
    split at q1
    · rename_i hc
      refine ⟨fun hk => ?_, fun d hd => ?_⟩
      · subst hk
        have hc : okR y = true := by simpa using hc
        have := showQ_of (a := y) r1 p1 rfl hc
        rw [← C.K] at this
        exact ⟨_, this, okR_small hc⟩
      · obtain ⟨r2, e2⟩ := r1.laid (o := .xd [(f, v)]) hd
        exact q1 ρ1 σ (.ref A) (some d) _ (e1.trans e2) r2 ((s.ext e1).ext e2) ⟨A, rfl, h1, d, v, f, rfl, upd_same, h6, (show Rep Z H1 y v from p1).ext e2⟩
    · exact q1.elim
  · exact q1.elim
end
end FW
/-! FxD: lambdas of a frame: made, known from then on, called by another def. -/
namespace FW
open PySem PySem.Spec PyProof.Rows L2 LamX
/-- a lambda's words: parameters, body, scope -/
abbrev LamD := Arguments × Expr × Scope
/-- the object at f is that lambda, over the cells cl, its code object at k -/
def LamO (f : Addr) (q : Str) (d : LamD) (cl : List (Str × Addr)) (k : Addr) : HO := .ext fun h => ∃ pm tv : Value, h.get? f = some (PySem.W.kla_obj "<lambda>" q d.1 d.2.1 d.2.2 cl pm k tv)
theorem lamO_noT {f : Addr} {q : Str} {d : LamD} {cl : List (Str × Addr)} {k : Addr} (ps : Array Value) : LamO f q d cl k ≠ .tbl ps := fun z => by unfold LamO at z; cases z
theorem lamO_noL {f : Addr} {q : Str} {d : LamD} {cl : List (Str × Addr)} {k : Addr} (xs : List V) : LamO f q d cl k ≠ .lst xs := fun z => by unfold LamO at z; cases z
theorem codeO_noL {c : Addr} {q : Str} (xs : List V) : CodeO c q ≠ .lst xs := fun z => by unfold CodeO at z; cases z
theorem lamO_get {P : Program} {w : World} {H : Hp} {h : Heap} {f k : Addr} {q : Str} {d : LamD} {cl : List (Str × Addr)} (ok : HOk P w H h) (e : H f = some (LamO f q d cl k)) :
    ∃ pm tv : Value, h.get? f = some (PySem.W.kla_obj "<lambda>" q d.1 d.2.1 d.2.2 cl pm k tv) := by
  have z := (ok f _ e).1
  exact z
theorem codeO_get {P : Program} {w : World} {H : Hp} {h : Heap} {k : Addr} {q : Str} (ok : HOk P w H h) (e : H k = some (CodeO k q)) : h.CodeRec (.ref k) q := by
  obtain ⟨oc, vs, t, g1, g2, g3⟩ := (ok k _ e).1
  exact ⟨k, oc, vs, t, rfl, g1, g2, g3⟩
/-- number j's lambda stands at a -/
def LamR (q : Str) (cells : List (Str × Addr)) (L : Nat → Option LamD) (j : Nat) (a : Addr) (H : Hp) : Prop :=
  ∃ d k, L j = some d ∧ H a = some (LamO a q d (cloFrom cells d.2.2.names []) k) ∧ H k = some (CodeO k q)
theorem LamR.ext {q : Str} {cells : List (Str × Addr)} {L : Nat → Option LamD} {j : Nat} {a : Addr} {ρ ρ' : Rho} {H H' : Hp} (h : LamR q cells L j a H) (e : Ext ρ H ρ' H') : LamR q cells L j a H' := by
  obtain ⟨d, k, g1, g2, g3⟩ := h
  exact ⟨d, k, g1, e.obj g2 lamO_noT lamO_noL, e.obj g3 codeO_ne codeO_noL⟩
/-- seen from a frame that makes the lambdas L -/
def Zf (Z : Am) (q : Str) (cells : List (Str × Addr)) (L : Nat → Option LamD) : Am := ⟨Z.toBm, Z.T, fun j a _ H => LamR q cells L j a H, fun _ _ _ _ _ _ h e => h.ext e⟩
section
variable {X : Cx} {pins : List (Addr × Obj)} {σ : L2.St} {H : Hp} {s : Shared}
/-- a lambda's object, laid last, is known from now on -/
theorem inv_lamO {q : Str} {d : LamD} {cl : List (Str × Addr)} {k : Addr} {pm tv : Value} {t' : Nat} (I : Inv X pins σ H s) :
    Inv X pins σ (upd H s.heap.objs.size (LamO s.heap.objs.size q d cl k)) { s with heap := s.heap.push (PySem.W.kla_obj "<lambda>" q d.1 d.2.1 d.2.2 cl pm k tv), toks := t' } := by
  have e : (s.heap.push (PySem.W.kla_obj "<lambda>" q d.1 d.2.1 d.2.2 cl pm k tv)).get? s.heap.objs.size = some (PySem.W.kla_obj "<lambda>" q d.1 d.2.1 d.2.2 cl pm k tv) := Heap.get?_push_size _ rfl
  refine I.laid (fun b u g => Heap.get?_push_of_some _ g) (Nat.le_refl _) ?_
  exact ⟨⟨pm, tv, e⟩, ⟨_, e⟩, fun h1 h2 ⟨p, v, z⟩ st => ⟨p, v, st _ z⟩⟩
/-- what is kept when a lambda is made -/
structure Made (T : List (Addr × Str)) (H H' : Hp) : Prop where
  ext : ExtN H H'
  back : ∀ b, H' b = none → H b = none
  tabs : Tabs T H'
theorem Made.lay {T : List (Addr × Str)} {H0 H : Hp} {p : Addr} {o : HO} (m : Made T H0 H) (n : H p = none) : Made T H0 (upd H p o) :=
  ⟨fun b u g t => (upd_ne (ne_of_none (m.ext b u g t) n)).trans (m.ext b u g t), fun b g => m.back b (by
    by_cases hb : b = p
    · rw [hb]; exact n
    · rw [upd_ne hb] at g; exact g), m.tabs.ext fun b u g => (upd_ne (ne_of_none g n)).trans g⟩
/-- the lambda is made; it is known from then on -/
theorem lam_new {T : List (Addr × Str)} {c tb : Addr} {d : LamD} {pos : Pos} {E : Value → Shared → Prop} {Q : Value → Shared → Prop} (I : Inv X pins σ H s) (B : TabB X.base X.mg c tb) (cd : X.env.code = .ref c)
    (m1 : (tb, X.env.qual ++ "<lambda>") ∈ T) (m2 : ∀ p ∈ T, p.1 = tb → p.2 = X.env.qual ++ "<lambda>") (hT : Tabs T H) (df : defaultsOf d.1 X.env = ([], [])) (fr : ∀ y ∈ d.2.2.names, y.2 = .free → ∃ c, X.env.cells.lookup y.1 = some c)
    (go : ∀ (f k : Addr) (G : Hp) (s' : Shared), Inv X pins σ G s' → Made T H G → G f = some (LamO f (X.env.qual ++ "<lambda>") d (cloFrom X.env.cells d.2.2.names []) k) → G k = some (CodeO k (X.env.qual ++ "<lambda>")) → Q (.ref f) s') :
    wpAny (model X.prog X.w) X.A (eval (.Lambda d.1 d.2.1 d.2.2 pos) X.env) Q E s := by
  obtain ⟨ps, t1, t2, t3⟩ := hT _ m1
  have at_tb : s.heap.get? tb = some { cls := .none, data := .fields ps } := I.hok tb _ t1
  have bi : s.heap.BuiltinsAt X.mg tb := B.bm.keeps I.bk
  have gl := I.mod.glob.keeps I.bk
  have hd := B.code.keeps I.bk
  refine PySem.W.kla_eval df ?_
  cases found : codeAmong pos ps.toList with
  | some cv =>
    obtain ⟨k, ek, ck⟩ := t3 pos cv found
    subst ek
    refine PySem.W.kla_makeFunctionHit (mg := X.mg) (c := c) (P := tb) (ps := ps) (closure_ok fr) I.ok.glob gl cd hd at_tb t2 found bi fun tv h' tk grow sz => ?_
    have J : Inv X pins σ H { s with heap := h', toks := tk } := I.kept grow
    have nf : H h'.objs.size = none := J.hok.fresh (Nat.le_refl _)
    refine go h'.objs.size k _ _ (inv_lamO (q := X.env.qual ++ "<lambda>") (d := d) (cl := cloFrom X.env.cells d.2.2.names []) (k := k) (pm := (X.mg "__name__").getD .none) (tv := tv) (t' := tk) J) ((⟨ExtN.refl H, fun _ z => z, hT⟩ : Made T H H).lay nf) upd_same ?_
    exact (upd_ne (ne_of_none ck nf)).trans ck
  | none =>
    refine PySem.W.kla_makeFunction (mg := X.mg) (c := c) (P := tb) (ps := ps) (closure_ok fr) I.ok.glob gl cd hd at_tb t2 found B.gP bi fun k tv h' tk grow ge lt rec_ told => ?_
    obtain ⟨k2, oc, vs, t, ek, r1, r2, r3⟩ := rec_
    cases ek
    have nk : H k = none := I.hok.fresh ge
    have J := inv_table (t' := tk) (more := #[rawInt pos.line, rawInt pos.col, .ref k]) (h' := h') I t1 (fun b o hb g => grow b o hb g) told ge ⟨oc, vs, t, r1, r2, r3⟩
    have keep : ∀ b o, H b = some o → b ≠ tb → upd (upd H tb (.tbl (ps ++ #[rawInt pos.line, rawInt pos.col, .ref k]))) k (CodeO k (X.env.qual ++ "<lambda>")) b = some o := fun b o g hb => by
      rw [upd_ne (ne_of_none g nk), upd_ne hb]
      exact g
    have eN : ExtN H (upd (upd H tb (.tbl (ps ++ #[rawInt pos.line, rawInt pos.col, .ref k]))) k (CodeO k (X.env.qual ++ "<lambda>"))) := fun b o g t => keep b o g fun z => by
      rw [z, t1] at g
      exact t ps (Option.some.inj g).symm
    have mk : Made T H (upd (upd H tb (.tbl (ps ++ #[rawInt pos.line, rawInt pos.col, .ref k]))) k (CodeO k (X.env.qual ++ "<lambda>"))) := by
      refine ⟨eN, fun b g => ?_, fun p hp => ?_⟩
      · by_cases b1 : b = k
        · rw [b1]; exact nk
        · rw [upd_ne b1] at g
          by_cases b2 : b = tb
          · rw [b2, upd_same] at g; cases g
          · rw [upd_ne b2] at g; exact g
      · by_cases hb : p.1 = tb
        · rw [m2 p hp hb, hb]
          have app : (ps ++ #[rawInt pos.line, rawInt pos.col, Value.ref k]).toList = ps.toList ++ [rawInt pos.line, rawInt pos.col, .ref k] := by simp
          refine ⟨_, (upd_ne (ne_of_none t1 nk)).trans upd_same, by rw [app]; exact PySem.TriplesOk_snoc _ _ _ _ t2, fun pos' cv g => ?_⟩
          rw [app] at g
          rcases among_app _ t2 g with z | z
          · obtain ⟨c0, e1, e2⟩ := t3 pos' cv z
            exact ⟨c0, e1, eN _ _ e2 codeO_ne⟩
          · exact ⟨k, z, upd_same⟩
        · obtain ⟨qs, a1, a2, a3⟩ := hT p hp
          refine ⟨qs, keep _ _ a1 hb, a2, fun pos' cv g => ?_⟩
          obtain ⟨c0, e1, e2⟩ := a3 pos' cv g
          exact ⟨c0, e1, eN _ _ e2 codeO_ne⟩
    have nf := J.hok.fresh (Nat.le_refl h'.objs.size)
    refine go h'.objs.size k _ _ (inv_lamO (q := X.env.qual ++ "<lambda>") (d := d) (cl := cloFrom X.env.cells d.2.2.names []) (k := k) (pm := (X.mg "__name__").getD .none) (tv := tv) (t' := tk) J) (mk.lay nf) upd_same ?_
    exact (upd_ne (Nat.ne_of_lt lt)).trans upd_same
end
section
variable {Z : Am} {rt : Rt} {W : WX} {X : Cx} {ρ ρ0 ρ' : Rho} {M : Mem} {H H0 H' : Hp} {δ : Slots} {σ : L2.St} {Q Q' : VK}
theorem Made.toExt (m : Made Z.T H H') : Ext ρ H ρ H' := ⟨fun _ _ h => h, fun _ _ h => .inl h, fun a h z => h (m.back a z), fun a o h t _ => m.ext a o h t⟩
theorem Made.toRl (m : Made Z.T H H') (r : Rl Z ρ M H) : Rl Z ρ M H' := ⟨fun n a q => by
  obtain ⟨ds, xs, h1, h2, h3⟩ := r.num n a q
  exact ⟨ds, xs, h1, m.ext _ _ h2 (fun _ z => by cases z), h3.ext (m.toExt (ρ := ρ))⟩, r.has, r.inj, r.lt, m.tabs⟩
/-- a lambda's display -/
def cloE (j : Nat) : SE := fun _ _ M => .ok (.clo j) M
theorem pv_lam {L : Nat → Option LamD} {c tb : Addr} {d : LamD} {pos : Pos} {j : Nat} (hZ : ∀ a ρ H, LamR (X.env.qual ++ "<lambda>") X.env.cells L j a H → Z.lam j a ρ H) (hL : L j = some d) (B : TabB X.base X.mg c tb) (cd : X.env.code = .ref c)
    (m1 : (tb, X.env.qual ++ "<lambda>") ∈ Z.T) (m2 : ∀ p ∈ Z.T, p.1 = tb → p.2 = X.env.qual ++ "<lambda>") (df : defaultsOf d.1 X.env = ([], [])) (fr : LamS X.env.scope d.2.2) :
    PE X (.Lambda d.1 d.2.1 d.2.2 pos) (tE Z rt W (cloE j)) := by
  refine ⟨fun pins s σ H Q I ⟨ρ, M, δ, r, sl, q⟩ => ?_⟩
  refine lam_new I B cd m1 m2 r.tabs df (fr.has I.ok) fun f k G s' J m g1 g2 => ?_
  exact ⟨.ref f, G, J, rfl, q ρ _ G (m.toExt) (m.toRl r) ⟨f, rfl, hZ _ _ _ ⟨d, k, hL, g1, g2⟩⟩⟩
/-- a list of lambdas -/
def allC : List D → Option (List Nat)
  | [] => some []
  | .clo j :: r => (allC r).map (j :: ·)
  | _ => none
theorem allC_ok : ∀ {ds : List D} {js : List Nat} {vs : List V}, allC ds = some js → RepDs Z ρ H ds vs → RepC Z ρ H js vs
  | [], js, vs, h, p => by
    cases h
    exact p
  | .clo j :: r, js, vs, h, p => by
    unfold allC at h
    cases e : allC r with
    | none => rw [e] at h; cases h
    | some ks =>
      rw [e] at h
      cases h
      obtain ⟨x, xs, e1, ⟨a, e2, e3⟩, p2⟩ := p
      subst e1 e2
      exact ⟨a, xs, rfl, e3, allC_ok e p2⟩
  | .p _ :: r, _, _, h, _ => by cases h
  | .loc _ :: r, _, _, h, _ => by cases h
  | .clos _ :: r, _, _, h, _ => by cases h
def lstC (as : SA) : SE := fun rt δ M => (as rt δ M).bind fun ds M1 => match allC ds with
  | some js => if small js.length then .ok (.clos js) M1 else .bad
  | none => .bad
theorem pv_lstC {es : List Expr} {mas : SA} {pos : Pos} (h : PA X es (tA Z rt W mas)) : PE X (.List es pos) (tE Z rt W (lstC mas)) :=
  PE.imp (PE.lk (pe_lst h)) fun σ H Q ⟨ρ, M, δ, r, s, q⟩ => by
    refine tA.thn (useAE (ρ0 := ρ) (H0 := H) r s Ext.refl q) fun vs H1 ⟨ρ1, M1, ds, e1, r1, p1, q1⟩ => ?_
    split at q1
    · rename_i js hx
      split at q1
      · rename_i hz
        have l := allC_ok hx p1
        have := small_le hz
        refine ⟨by rw [← RepC.length l, sizeLine_eq]; omega, fun p hp => .inr ⟨p, vs, rfl, upd_same, fun o => ?_⟩⟩
        obtain ⟨r2, e2⟩ := r1.laid (o := .frz o (.lst vs)) hp
        have eu : upd (upd H1 p (.lst vs)) p (.frz o (.lst vs)) = upd H1 p (.frz o (.lst vs)) := upd_upd
        rw [eu]
        exact q1 ρ1 _ _ (e1.trans e2) r2 ⟨p, vs, rfl, .inl ⟨o, upd_same⟩, RepC.ext e2 l⟩
      · exact q1.elim
    · exact q1.elim
end
end FW
/-! FxE: several except clauses, with and without a name. -/
namespace FW
open PySem PySem.Spec PyProof.Rows L2
/-- a clause: its class, its name's slot, its suite's reading -/
abbrev ClM := Value × Option Nat × (Addr → Value → Option Addr → TS)
/-- the ends behind a named clause: the name is gone -/
def offE (i : Nat) (D : Ends) : Ends := { nx := fun τ G => D.nx (τ.set i none) G, rt := D.rt, bk := fun τ G => D.bk (τ.set i none) G, ct := fun τ G => D.ct (τ.set i none) G }
def wMix (K : PySem.W.Frag) (Wo : WX) (D : Ends) : List ClM → WX
  | [] => Wo
  | (c, o, ts) :: r => fun cls d σ H => ∃ b, PySem.W.exmOne K cls c = some b ∧ (b = true → ∀ a, H a = none → match o with
      | none => ts a cls d D σ H
      | some i => ts a cls d (offE i D) (σ.set i (some (.ref a))) H) ∧ (b = false → wMix K Wo D r cls d σ H)
inductive HdsM (X : Cx) : List ExceptHandler → List ClM → Prop
  | nil : HdsM X [] []
  | bare {x : Str} {c : Value} {ts : Addr → Value → Option Addr → TS} {b : Stmt} {bs : List Stmt} {np q : Pos} {hs : List ExceptHandler} {l : List ClM} (hc : Names X x c)
      (su : ∀ (a : Addr) (oe : Obj) (cls : Value) (d : Option Addr) (pn : List (Addr × Obj)), Zc cls d oe → (∃ vs, oe.data = .fields vs) → PSs (X.suite a ((a, oe) :: pn)) (b :: bs) (ts a cls d)) (r : HdsM X hs l) : HdsM X (.ExceptHandler (some (.Name x np)) none (b :: bs) q :: hs) ((c, none, ts) :: l)
  | nam {x n : Str} {i : Nat} {c : Value} {ts : Addr → Value → Option Addr → TS} {b : Stmt} {bs : List Stmt} {np q : Pos} {hs : List ExceptHandler} {l : List ClM} (hc : Names X x c) (hi : X.N[i]? = some n) (hl : X.env.kindOf n = some .local)
      (su : ∀ (a : Addr) (oe : Obj) (cls : Value) (d : Option Addr) (pn : List (Addr × Obj)), Zc cls d oe → (∃ vs, oe.data = .fields vs) → PSs (X.suite a ((a, oe) :: pn)) (b :: bs) (ts a cls d)) (r : HdsM X hs l) : HdsM X (.ExceptHandler (some (.Name x np)) (some n) (b :: bs) q :: hs) ((c, some i, ts) :: l)
theorem ps_try_mix {X : Cx} {bd : List Stmt} {g : ExceptHandler} {gs : List ExceptHandler} {l : List ClM} {pos : Pos} {tb : WX → TS} {Wo : WX} (st : X.stack = X.env :: X.outer) (fr : X.env.frame = some X.env.locals) (nd : X.N.Nodup) (tk : Takes X Wo)
    (hb : ∀ (W : WX) (pn : List (Addr × Obj)) (xe : Value → Shared → Prop), Takes (X.tr pn xe) W → PassesOwn (model X.prog X.w) X.A X.env xe → PSs (X.tr pn xe) bd (tb W))
    (hh : HdsM X (g :: gs) l) : PS X (.Try bd (g :: gs) [] [] pos) (fun D σ H => tb (wMix X.K Wo D l) D σ H) := by
  refine ⟨fun pins s σ H D I hyp => ?_⟩
  have oks := I.ok
  have frames_ : X.A.frames = some (X.env :: X.outer) := by rw [oks.frames, st]
  refine wpAny_Try_except (wpAny_mono ((hb (wMix X.K Wo D l) (X.pn ++ pins) (fun e s₁ => wpAny (model X.prog X.w) X.A (noteFrame e X.env) (fun _ s₂ => wpAny (model X.prog X.w) X.A (setFlight e none) (fun _ s₃ =>
    wpAny (model X.prog X.w) X.A (handleBy e X.env (g :: gs)) (SP X pins D) X.xe s₃) X.xe s₂) X.xe s₁) (fun u t xx => ?_) PassesOwn.looking).run [] s σ H D (I.toTry _) hyp) (fun f t sp => ?_) (fun e t he => he))
  · obtain ⟨a, B, sI, pins', τ, G, cls, d, rfl, J0, nb, up, sky, na, os, ag, w⟩ := xx
    have J : Inv X pins τ G sI := J0.ofTry oks
    have sk : Sky B (X.env :: X.outer) a (Zc cls d) X.env.locals t.heap := by rw [← st]; exact sky
    show wpAny (model X.prog X.w) X.A (noteFrame (.ref a) X.env) _ _ _
    refine Sky.land Zc.steady frames_ fr sk fun hA flA upA => ?_
    have JA : Inv X pins τ G { t with heap := hA } := J.landed nb flA.1 (up.trans upA) os ag
    obtain ⟨oA, vA, eA, zA, dA⟩ := flA.there
    have far : a ∉ frs (X.env :: X.outer) := fun hm => by
      obtain ⟨_, o', e', hnf⟩ := flA.2.2.1.mem hm
      rw [eA] at e'
      cases e'
      exact hnf _ dA
    have farL : a ≠ X.env.locals := fun z => far (List.mem_filterMap.mpr ⟨X.env, List.mem_cons_self, by rw [fr, z]⟩)
    have farF : a ∉ X.fs := fun hm => by
      obtain ⟨e, he, q⟩ := List.mem_filterMap.mp hm
      exact far (List.mem_filterMap.mpr ⟨e, List.mem_cons_of_mem _ he, q⟩)
    have SA := JA.suite eA dA na farL farF
    have go : ∀ {hs' : List ExceptHandler} {l' : List ClM}, HdsM X hs' l' → wMix X.K Wo D l' cls d τ G → wpAny (model X.prog X.w) X.A (handleBy (.ref a) X.env hs') (SP X pins D) X.xe { t with heap := hA } := by
      intro hs' l' hk
      have nameOf : ∀ {x : Str} {c : Value} {np : Pos} {Q : Value → Shared → Prop} {E : Value → Shared → Prop}, Names X x c → Q c { t with heap := hA } → wpAny (model X.prog X.w) (X.A.mark (some (.ref a))) (eval (.Name x np) X.env) Q E { t with heap := hA } := fun {x c np Q E} hc q => by
        obtain ⟨hg, hdbg, hm | ⟨hm, hv, hnn⟩⟩ := hc
        · exact ld_glob (X := X.suite a ((a, oA) :: (X.pn ++ pins))) SA hg hm q hdbg
        · exact ld_blt (X := X.suite a ((a, oA) :: (X.pn ++ pins))) SA hg hm hv q hnn hdbg
      have looks : ∀ {c : Value} {b : Bool}, PySem.W.exmOne X.K cls c = some b → _ := fun {c b} hb1 => PySem.W.exm_one (M := model X.prog X.w) (c := c) (b := b) (JA.kIn) (show PySem.W.Looks (model X.prog X.w) hA (typeOf (.ref a)) cls from fun A Q E s k q => wpAny_typeOf_ref (k _ _ eA) (by rw [zA.1]; exact q)) hb1
      induction hk with
      | nil =>
        intro w
        refine wpAny_handleBy_nil ?_
        obtain ⟨_, _, _, oe, vs, T, oT, ts', he, hz, hd, h1, hr⟩ := id flA
        unfold PySem.passOn
        refine wpAny_bind (wpAny_field he hd h1 ?_)
        rw [if_neg (show ¬ ((Value.ref T == Value.none) = true) from by simp)]
        have out : wpAny (model X.prog X.w) X.A (setFlight (.ref a) X.env.frame) (fun _ s4 => wpAny (model X.prog X.w) X.A (throw (.ref a) : Sem Flow) (SP X pins D) X.xe s4) X.xe { t with heap := hA } := by
          rw [fr]
          exact HandSPX.setFlight_upZ flA fun hB held upB => wpAny_throw (tk _ _ ⟨a, B, sI, pins, τ, G, cls, d, rfl, J, nb, (up.trans upA).trans upB, .inr (.inr (by rw [st]; exact held)), na, os, ag, w⟩)
        first
          | exact wpAny_bind (wpAny_pure (wpAny_bind out))
          | exact wpAny_bind out
      | @bare x c ts b bs np q hs2 l2 hc su r ih =>
        intro ⟨v, v1, yes, no⟩
        refine wpAny_handleBy_cons (codeAny_handlers_test (nameOf hc ((looks v1).here ?_))) (by intro z; cases z)
        cases v with
        | false => exact ih (no rfl)
        | true =>
          refine codeAny_handlers_suite (HandSPX.lands_againZ flA fun hB flB upB => ?_)
          have JB : Inv X pins τ G { t with heap := hB } := J.landed nb flB.1 ((up.trans upA).trans upB) os ag
          obtain ⟨oB, vB, eB, zB, dB⟩ := flB.there
          have SB := JB.suite eB dB na farL farF
          refine wpAny_mono ((su a oB cls d (X.pn ++ pins) zB ⟨_, dB⟩).run [] _ _ G _ SB (yes rfl a na)) (fun f t6 sp => ?_) (fun _ _ z => False.elim z)
          cases f with
          | ret u =>
            obtain ⟨v6, τ6, G6, S6, r6, q6⟩ := sp
            exact ⟨_, _, _, S6.unsuite oks, r6, q6⟩
          | _ =>
            obtain ⟨τ6, G6, S6, q6⟩ := sp
            exact ⟨_, _, S6.unsuite oks, q6⟩
      | @nam x n i c ts b bs np q hs2 l2 hc hi hl su r ih =>
        intro ⟨v, v1, yes, no⟩
        refine wpAny_handleBy_cons (codeAny_handlers_test (nameOf hc ((looks v1).here ?_))) (by intro z; cases z)
        cases v with
        | false => exact ih (no rfl)
        | true =>
          refine codeAny_handlers_suite_as (HandSPX.lands_againZ flA fun hB flB upB => ?_)
          have JB : Inv X pins τ G { t with heap := hB } := J.landed nb flB.1 ((up.trans upA).trans upB) os ag
          obtain ⟨oB, vB, eB, zB, dB⟩ := flB.there
          have SB := JB.suite eB dB na farL farF
          refine store_ok (X := X.suite a ((a, oB) :: (X.pn ++ pins))) (v := .ref a) SB nd hi (.inl hl) rfl (fun t5 S5 => ?_) (.inr hl)
          refine wpAny_mono ((su a oB cls d (X.pn ++ pins) zB ⟨_, dB⟩).run [] t5 _ G _ S5 (yes rfl a na)) (fun f t6 sp => ?_) (fun _ _ z => False.elim z)
          have gone : ∀ {τ6 : L2.St} {G6 : Hp} {Q : Shared → Prop}, Inv (X.suite a ((a, oB) :: (X.pn ++ pins))) [] τ6 G6 t6 → (∀ t7, Inv X pins (τ6.set i none) G6 t7 → Q t7) →
              wpAny (model X.prog X.w) X.A (do bindName X.env n .none; unbindBehindTheSuite X.env n q) (fun _ t7 => Q t7) X.xe t6 := fun S6 hq => gone_ok (S6.unsuite oks) nd hi hl hq
          cases f with
          | ret u =>
            obtain ⟨v6, τ6, G6, S6, r6, q6⟩ := sp
            exact gone S6 fun t7 J7 => ⟨_, _, _, J7, r6, q6⟩
          | _ =>
            obtain ⟨τ6, G6, S6, q6⟩ := sp
            exact gone S6 fun t7 J7 => ⟨_, _, J7, q6⟩
    exact go hh w
  · cases f with
    | ret u =>
      obtain ⟨v, τ, G, J, r, q⟩ := sp
      exact ⟨v, τ, G, J.ofTry oks, r, q⟩
    | next =>
      obtain ⟨τ, G, J, q⟩ := sp
      exact wpAny_execs_nil ⟨τ, G, J.ofTry oks, q⟩
    | brk =>
      obtain ⟨τ, G, J, q⟩ := sp
      exact ⟨τ, G, J.ofTry oks, q⟩
    | cont =>
      obtain ⟨τ, G, J, q⟩ := sp
      exact ⟨τ, G, J.ofTry oks, q⟩
end FW
/-! FxF: try on data. -/
namespace FW
open PySem PySem.Spec PyProof.Rows L2
/-- what is known of the caught exception at its name -/
def Caught (Z : Bm) (a : Addr) (cls : Value) (dx : Option Addr) (p : P) (f : Str) (u : Addr) (H : Hp) : Prop :=
  u = a ∧ ∃ A dd v, cls = .ref A ∧ dx = some dd ∧ H dd = some (.xd [(f, v)]) ∧ Rep Z H p v ∧ XfC Z.K A ∧ PySem.W.findIn Z.K (.ref A) f = some none
theorem Caught.ext {Z : Am} {a : Addr} {cls : Value} {dx : Option Addr} {p : P} {f : Str} {u : Addr} {ρ ρ' : Rho} {H H' : Hp} (h : Caught Z a cls dx p f u H) (e : Ext ρ H ρ' H') : Caught Z a cls dx p f u H' := by
  obtain ⟨h0, A, dd, v, h1, h2, h3, h4, h5⟩ := h
  exact ⟨h0, A, dd, v, h1, h2, e.obj h3 (fun _ z => by cases z) (fun _ z => by cases z), h4.ext e, h5⟩
/-- seen from an except suite whose exception has a name: number 1000 stands for it -/
def Zs (Z : Am) (a : Addr) (cls : Value) (dx : Option Addr) (p : P) (f : Str) : Am :=
  ⟨Z.toBm, Z.T, fun j u ρ H => Z.lam j u ρ H ∨ (j = 1000 ∧ Caught Z a cls dx p f u H), fun j u ρ H ρ' H' h e => h.elim (fun h => .inl (Z.lamK _ _ _ _ _ _ h e)) fun h => .inr ⟨h.1, h.2.ext e⟩⟩
/-- no trace of number 1000 -/
def noG1 : D → Bool
  | .clo j => !(j == 1000)
  | .clos js => js.all fun j => !(j == 1000)
  | _ => true
def noG (δ : Slots) : Bool := δ.all fun o => match o with
  | some d => noG1 d
  | none => true
section
variable {Z : Am} {ρ ρ' : Rho} {M M' : Mem} {H H' : Hp} {a : Addr} {cls : Value} {dx : Option Addr} {p : P} {f : Str}
theorem repC_in {js : List Nat} {xs : List V} : RepC Z ρ H js xs → RepC (Zs Z a cls dx p f) ρ H js xs := by
  induction js generalizing xs with
  | nil => exact id
  | cons j js ih =>
    rintro ⟨u, r, h1, h2, h3⟩
    exact ⟨u, r, h1, .inl h2, ih h3⟩
theorem repD_in {d : D} {v : V} (h : RepD Z ρ H d v) : RepD (Zs Z a cls dx p f) ρ H d v := by
  cases d with
  | p x => exact h
  | loc n => exact h
  | clo j =>
    obtain ⟨u, h1, h2⟩ := h
    exact ⟨u, h1, .inl h2⟩
  | clos js =>
    obtain ⟨u, xs, h1, h2, h3⟩ := h
    exact ⟨u, xs, h1, h2, repC_in h3⟩
theorem repC_off {js : List Nat} {xs : List V} (n : (js.all fun j => !(j == 1000)) = true) : RepC (Zs Z a cls dx p f) ρ H js xs → RepC Z ρ H js xs := by
  induction js generalizing xs with
  | nil => exact id
  | cons j js ih =>
    rw [List.all_cons, Bool.and_eq_true] at n
    rintro ⟨u, r, h1, h2, h3⟩
    rcases h2 with h2 | ⟨h2, _⟩
    · exact ⟨u, r, h1, h2, ih n.2 h3⟩
    · subst h2
      simp at n
theorem repD_off {d : D} {v : V} (n : noG1 d = true) (h : RepD (Zs Z a cls dx p f) ρ H d v) : RepD Z ρ H d v := by
  cases d with
  | p x => exact h
  | loc n => exact h
  | clo j =>
    obtain ⟨u, h1, h2⟩ := h
    rcases h2 with h2 | ⟨h2, _⟩
    · exact ⟨u, h1, h2⟩
    · subst h2
      simp [noG1] at n
  | clos js =>
    obtain ⟨u, xs, h1, h2, h3⟩ := h
    exact ⟨u, xs, h1, h2, repC_off n h3⟩
theorem rl_in (r : Rl Z ρ M H) : Rl (Zs Z a cls dx p f) ρ M H := ⟨r.num, r.has, r.inj, r.lt, r.tabs⟩
theorem rl_off (r : Rl (Zs Z a cls dx p f) ρ M H) : Rl Z ρ M H := ⟨r.num, r.has, r.inj, r.lt, r.tabs⟩
theorem slO_in {δ : Slots} {σ : L2.St} (s : SlO Z ρ H δ σ) : SlO (Zs Z a cls dx p f) ρ H δ σ := ⟨s.len, fun i d q => by
  obtain ⟨v, h1, h2⟩ := s.at_ i d q
  exact ⟨v, h1, repD_in h2⟩⟩
theorem slO_off {δ : Slots} {σ : L2.St} (n : noG δ = true) (s : SlO (Zs Z a cls dx p f) ρ H δ σ) : SlO Z ρ H δ σ := ⟨s.len, fun i d q => by
  obtain ⟨v, h1, h2⟩ := s.at_ i d q
  exact ⟨v, h1, repD_off (List.all_eq_true.mp n (some d) (List.mem_of_getElem? q)) h2⟩⟩
end
/-- e.f, e the caught exception's name -/
def xfE (i : Nat) (o : Option P) : SE := fun _ δ M => match δ[i]?, o with
  | some (some (.clo 1000)), some p => .ok (.p p) M
  | _, _ => .bad
/-- a suite raises nothing -/
def noXS (r : RS) : RS := match r with
  | .exc _ _ _ => .bad
  | r => r
/-- behind a named clause -/
def offS (i : Nat) (r : RS) : RS := match r with
  | .nx δ M => if noG (δ.set i none) then .nx (δ.set i none) M else .bad
  | .bk δ M => if noG (δ.set i none) then .bk (δ.set i none) M else .bad
  | .ct δ M => if noG (δ.set i none) then .ct (δ.set i none) M else .bad
  | .rt d M => if noG1 d then .rt d M else .bad
  | _ => .bad
/-- a clause: which classes, the name's slot, the suite by what the exception keeps -/
abbrev HdD := (Nat → Bool) × Option Nat × (Option P → SS)
def catchS : List HdD → Exn → SS
  | [], x => fun _ δ M => .exc x δ M
  | (fm, o, su) :: r, x => fun rt δ M => if fm x.c then (match o with
      | none => noXS (su none rt δ M)
      | some i => (match x.d with
        | some p => offS i (su (some p) rt (δ.set i (some (.clo 1000))) M)
        | none => .bad)) else catchS r x rt δ M
def tryS (b : SS) (hs : List HdD) : SS := fun rt δ M => match b rt δ M with
  | .exc x δ1 M1 => catchS hs x rt δ1 M1
  | r => r
inductive HdsD (X : Cx) (Z : Am) (rt : Rt) : List ExceptHandler → List HdD → Prop
  | nil : HdsD X Z rt [] []
  | bare {x : Str} {CS : Addr} {fm : Nat → Bool} {su : Option P → SS} {b : Stmt} {bs : List Stmt} {np q : Pos} {hs : List ExceptHandler} {l : List HdD} (hc : Names X x (.ref CS)) (em : ∀ c A, Z.ca c = some A → PySem.W.exmOne X.K (.ref A) (.ref CS) = some (fm c))
      (hsu : ∀ (a : Addr) (oe : Obj) (pn : List (Addr × Obj)), PSs (X.suite a ((a, oe) :: pn)) (b :: bs) (tS Z rt noW (su none))) (r : HdsD X Z rt hs l) : HdsD X Z rt (.ExceptHandler (some (.Name x np)) none (b :: bs) q :: hs) ((fm, none, su) :: l)
  | nam {x n f : Str} {i : Nat} {CS : Addr} {fm : Nat → Bool} {su : Option P → SS} {b : Stmt} {bs : List Stmt} {np q : Pos} {hs : List ExceptHandler} {l : List HdD} (hc : Names X x (.ref CS)) (em : ∀ c A, Z.ca c = some A → PySem.W.exmOne X.K (.ref A) (.ref CS) = some (fm c))
      (hi : X.N[i]? = some n) (hl : X.env.kindOf n = some .local) (xf : ∀ c A, fm c = true → Z.ca c = some A → Z.fl c = [f] ∧ XfC Z.K A ∧ PySem.W.findIn Z.K (.ref A) f = some none)
      (hsu : ∀ (a : Addr) (oe : Obj) (cls : Value) (dx : Option Addr) (pn : List (Addr × Obj)) (p : P), Zc cls dx oe → (∃ vs, oe.data = .fields vs) → PSs (X.suite a ((a, oe) :: pn)) (b :: bs) (tS (Zs Z a cls dx p f) rt noW (su (some p))))
      (r : HdsD X Z rt hs l) : HdsD X Z rt (.ExceptHandler (some (.Name x np)) (some n) (b :: bs) q :: hs) ((fm, some i, su) :: l)
section
variable {Z : Am} {rt : Rt} {W : WX} {X : Cx} {n : Nat}
theorem noXS_ok {ρ : Rho} {H : Hp} {E : Ends} {r : RS} {Wo : WX} (q : stdS Z Wo ρ H E (noXS r)) : stdS Z noW ρ H E r := by
  cases r with
  | exc x δ M => exact False.elim q
  | nx _ _ => exact q
  | rt _ _ => exact q
  | bk _ _ => exact q
  | ct _ _ => exact q
  | bad => exact q
theorem offS_ok {ρ : Rho} {H : Hp} {E : Ends} {r : RS} {Wo : WX} {a : Addr} {cls : Value} {dx : Option Addr} {p : P} {f : Str} {i : Nat} (q : stdS Z Wo ρ H E (offS i r)) : stdS (Zs Z a cls dx p f) noW ρ H (offE i E) r := by
  have key : ∀ {δ : Slots} {M : Mem} {Q : L2.St → Hp → Prop}, noG (δ.set i none) = true → stdN Z ρ H Q (δ.set i none) M → stdN (Zs Z a cls dx p f) ρ H (fun τ G => Q (τ.set i none) G) δ M :=
    fun g q ρ' σ' H' e r s => q ρ' _ H' e (rl_off r) (slO_off g (s.drop i))
  cases r with
  | exc x δ M => exact False.elim q
  | bad => exact False.elim q
  | rt d M =>
    unfold offS at q
    simp only at q
    split at q
    · rename_i g
      exact fun ρ' v H' e r pv => q ρ' v H' e (rl_off r) (repD_off g pv)
    · exact False.elim q
  | nx δ M =>
    unfold offS at q
    simp only at q
    split at q
    · rename_i g
      exact key g q
    · exact False.elim q
  | bk δ M =>
    unfold offS at q
    simp only at q
    split at q
    · rename_i g
      exact key g q
    · exact False.elim q
  | ct δ M =>
    unfold offS at q
    simp only at q
    split at q
    · rename_i g
      exact key g q
    · exact False.elim q
theorem hdsD_M {hs : List ExceptHandler} {l : List HdD} (h : HdsD X Z rt hs l) (hK : X.K = Z.K) : ∃ cl, HdsM X hs cl ∧ ∀ (Wo : WX) (E : Ends) (ρ0 ρ : Rho) (H0 H : Hp) (x : Exn) (δ : Slots) (M : Mem) (σ : L2.St) (cls : Value) (dx : Option Addr),
    Ext ρ0 H0 ρ H → Rl Z ρ M H → SlO Z ρ H δ σ → ExR Z H x cls dx → stdS Z Wo ρ0 H0 E (catchS l x rt δ M) → wMix X.K Wo E cl cls dx σ H := by
  induction h with
  | nil => exact ⟨[], .nil, fun Wo E ρ0 ρ H0 H x δ M σ cls dx e r s xr q => q ρ σ cls dx H e r s xr⟩
  | @bare xn CS fm su b bs np qp hs l hc em hsu r ih =>
    obtain ⟨cl, h1, h2⟩ := ih
    refine ⟨(.ref CS, none, fun a cls dx => tS Z rt noW (su none)) :: cl, .bare hc (fun a oe cls d pn _ _ => hsu a oe pn) h1, fun Wo E ρ0 ρ H0 H x δ M σ cls dx e r s xr q => ?_⟩
    have xr' := xr
    obtain ⟨A, hA, hc2, _⟩ := xr'
    subst hA
    refine ⟨fm x.c, em _ _ hc2, fun hb a na => ?_, fun hb => ?_⟩
    · unfold catchS at q
      rw [if_pos hb] at q
      exact restS r s e (noXS_ok q)
    · unfold catchS at q
      rw [if_neg (by rw [hb]; exact Bool.false_ne_true)] at q
      exact h2 Wo E ρ0 ρ H0 H x δ M σ _ dx e r s xr q
  | @nam xn nn f i CS fm su b bs np qp hs l hc em hi hl xf hsu r ih =>
    obtain ⟨cl, h1, h2⟩ := ih
    refine ⟨(.ref CS, some i, fun a cls dx => fun D σ H => ∃ p, tS (Zs Z a cls dx p f) rt noW (su (some p)) D σ H) :: cl, .nam hc hi hl (fun a oe cls d pn z1 z2 => ⟨fun pins s' σ' H' D I ⟨p, hp⟩ => (hsu a oe cls d pn p z1 z2).run pins s' σ' H' D I hp⟩) h1, fun Wo E ρ0 ρ H0 H x δ M σ cls dx e r s xr q => ?_⟩
    have xr' := xr
    obtain ⟨A, hA, hc2, hd⟩ := xr'
    subst hA
    refine ⟨fm x.c, em _ _ hc2, fun hb a na => ?_, fun hb => ?_⟩
    · unfold catchS at q
      rw [if_pos hb] at q
      cases hx : x.d with
      | none =>
        rw [hx] at q
        exact False.elim q
      | some p =>
        rw [hx] at q hd
        obtain ⟨dd, v, nm, g1, g2, g3, g4⟩ := hd
        obtain ⟨k1, k2, k3⟩ := xf _ _ hb hc2
        rw [k1] at g3
        cases g3
        have s2 : SlO (Zs Z a (.ref A) dx p f) ρ H (δ.set i (some (.clo 1000))) (σ.set i (some (.ref a))) := (slO_in s).set i (d := .clo 1000) ⟨a, rfl, .inr ⟨rfl, rfl, A, dd, v, rfl, g1, g2, g4, k2, k3⟩⟩
        refine ⟨p, restS (rl_in r) s2 e ?_⟩
        exact offS_ok q
    · unfold catchS at q
      rw [if_neg (by rw [hb]; exact Bool.false_ne_true)] at q
      exact h2 Wo E ρ0 ρ H0 H x δ M σ _ dx e r s xr q
theorem ps_tryS {bd : List Stmt} {g : ExceptHandler} {gs : List ExceptHandler} {l : List HdD} {mb : SS} {pos : Pos} (C : Ct X Z W n) (st : X.stack = X.env :: X.outer) (fr : X.env.frame = some X.env.locals)
    (hb : ∀ (W : WX) (pn : List (Addr × Obj)) (xe : Value → Shared → Prop), Takes (X.tr pn xe) W → PassesOwn (model X.prog X.w) X.A X.env xe → PSs (X.tr pn xe) bd (tS Z rt W mb)) (hh : HdsD X Z rt (g :: gs) l) :
    PS X (.Try bd (g :: gs) [] [] pos) (tS Z rt W (tryS mb l)) := by
  obtain ⟨cl, h1, h2⟩ := hdsD_M hh C.K
  refine PS.imp (ps_try_mix st fr C.nd C.tk hb h1) fun E σ H ⟨ρ, M, δ, r, s, q⟩ => ?_
  refine ⟨ρ, M, δ, r, s, ?_⟩
  unfold tryS at q
  revert q
  cases mb rt δ M with
  | exc x δ1 M1 => exact fun q ρ' σ' cls dx H' e r' s' xr => h2 W E ρ ρ' H H' x δ1 M1 σ' cls dx e r' s' xr q
  | nx _ _ => exact id
  | rt _ _ => exact id
  | bk _ _ => exact id
  | ct _ _ => exact id
  | bad => exact id
/-- the exception's field -/
theorem pv_xf {a : Addr} {oe : Obj} {cls : Value} {dx : Option Addr} {pn : List (Addr × Obj)} {p : P} {f nn : Str} {i : Nat} {p1 p2 : Pos} (hK : X.K = Z.K) (hz : Zc cls dx oe) (hf : ∃ vs, oe.data = .fields vs) (hN : X.N[i]? = some nn) (hv : Vis X.env.scope nn) (nm : NmOk nn) (hno : ∀ u ρ H, ¬ Z.lam 1000 u ρ H) :
    PE (X.suite a ((a, oe) :: pn)) (.Attribute (.Name nn p1) f p2) (tE (Zs Z a cls dx p f) rt noW (xfE i (some p))) := by
  refine ⟨fun pins s σ H Q I ⟨ρ, M, δ, r, sl, q⟩ => ?_⟩
  unfold xfE at q
  split at q
  · rename_i hd hpq
    cases hpq
    obtain ⟨v, h1, u, h2, h3⟩ := sl.at_ i _ hd
    subst h2
    have fin : ∀ A dd v0, cls = .ref A → dx = some dd → H dd = some (.xd [(f, v0)]) → Rep Z H p v0 → XfC Z.K A → PySem.W.findIn Z.K (.ref A) f = some none → u = a → wpAny (model (X.suite a ((a, oe) :: pn)).prog (X.suite a ((a, oe) :: pn)).w) (X.suite a ((a, oe) :: pn)).A (eval (.Attribute (.Name nn p1) f p2) (X.suite a ((a, oe) :: pn)).env) (EP (X.suite a ((a, oe) :: pn)) pins σ Q) (X.suite a ((a, oe) :: pn)).xe s := by
      intro A dd v0 e1 e2 e3 e4 e5 e6 e7
      subst e7
      refine (pe_xf (X := X) (C := A) (by rw [hK]; exact e5) (by rw [hK]; exact e6) hz hf (pe_var (pos := p1) (i := i) hN hv nm.d nm.c)).run pins s σ H Q I ?_
      exact ⟨.ref u, h1, rfl, e1, dd, _, v0, e2, e3, by simp [List.lookup], q ρ v0 H Ext.refl r e4⟩
    rcases h3 with h3 | ⟨_, h0, A, dd, v0, e1, e2, e3, e4, e5, e6⟩
    · exact (hno _ _ _ h3).elim
    · exact fin A dd v0 e1 e2 e3 e4 e5 e6 h0
  · exact q.elim
end
end FW
/-! FxG: a def that calls the lambda it got. -/
namespace FW
open PySem PySem.Spec PyProof.Rows L2 LamX
/-- seen from the def that got the lambda j: number 0 stands for it; δ, σ: the maker's slots -/
def Zg (Z : Am) (q : Str) (cells : List (Str × Addr)) (L : Nat → Option LamD) (j : Nat) (δ : Slots) (σ : L2.St) : Am :=
  ⟨Z.toBm, Z.T, fun i u ρ H => i = 0 ∧ LamR q cells L j u H ∧ SlO (Zf Z q cells L) ρ H δ σ, fun _ _ _ _ _ _ h e => ⟨h.1, h.2.1.ext e, h.2.2.ext e⟩⟩
/-- .. for names: no lambda that is known -/
def Am.bare (Z : Am) : Am := ⟨Z.toBm, Z.T, fun _ _ _ _ => False, fun _ _ _ _ _ _ h _ => h⟩
theorem rl_am {B : Bm} {T : List (Addr × Str)} {l l' : Nat → Addr → Rho → Hp → Prop} {k k'} {ρ : Rho} {M : Mem} {H : Hp} (r : Rl ⟨B, T, l, k⟩ ρ M H) : Rl ⟨B, T, l', k'⟩ ρ M H := ⟨r.num, r.has, r.inj, r.lt, r.tabs⟩
/-- only what goes out -/
def outE (r : RE) : RE := match r with
  | .ok (.p x) M => .ok (.p x) M
  | .ok (.loc n) M => .ok (.loc n) M
  | .exc x M => .exc x M
  | _ => .bad
/-- x(), x the lambda that came in -/
def actE (i : Nat) (r : Mem → RE) : SE := fun _ δ M => match δ[i]? with
  | some (some (.clo 0)) => outE (r M)
  | _ => .bad
section
variable {X : Cx} {pins : List (Addr × Obj)} {σ : L2.St} {H HZ : Hp} {s s1 : Shared} {fp : List Addr}
/-- the lambda's frame: its maker's slots are as they were at s -/
theorem lam_into {A : Around} {outer : List Env} {E : XK} {scope : Scope} {f k : Addr} {h₁ : Heap} {tk : Nat} (I : Inv X pins σ H s) (L : LamS X.env.scope scope) (e0 : Env0 X.prog X.w X.K X.mg X.base A outer s1 HZ) (hd : A.handled = none)
    (un : Un (frs X.stack) fp H HZ s.heap s1.heap) (hfp : ∀ b ∈ fp, ∀ x c, X.env.cells.lookup x = some c → c ≠ b) (ns : h₁.Ns s1.heap.objs.size fun y => ([] : List (Str × Value)).reverse.lookup y) (grow : ∀ b o, s1.heap.get? b = some o → h₁.get? b = some o) :
    Inv (lamCx X A outer s1 HZ E scope f k) [] σ HZ { s1 with heap := h₁, toks := tk } := by
  have had := L.has I.ok
  have notIn : ∀ {x c}, X.env.cells.lookup x = some c → c ∉ fp := fun {x c} g z => hfp c z x c g rfl
  have old : ∀ {y c}, (cloFrom X.env.cells scope.names []).lookup y = some c → X.env.cells.lookup y = some c := fun {y c} g => by
    rcases cloFrom_mem (PySem.mem_of_lookup g) with m | ⟨m1, m2⟩
    · cases m
    · obtain ⟨c1, g1⟩ := had _ m1 rfl
      have g1 : X.env.cells.lookup y = some c1 := g1
      have eq : c = c1 := by
        rw [m2, g1] <;> rfl
      rw [eq]
      exact g1
  have taken : ∀ {y}, scope.names.lookup y = some .free → ∃ c, (cloFrom X.env.cells scope.names []).lookup y = some c := fun {y} g =>
    mem_lookup (cloFrom_has (cells := X.env.cells) (acc := []) (show (y, NameKind.free) ∈ scope.names from PySem.mem_of_lookup g))
  have still : ∀ {x c : _} {v : Option Value}, X.env.cells.lookup x = some c → s.heap.IsCell c v → h₁.IsCell c v := fun {x c v} g ⟨o, ho, od⟩ => by
    obtain ⟨sl, z⟩ := un.any ho (I.freeC x c g) (notIn g)
    exact ⟨_, grow _ _ z, od⟩
  have noX : ∀ b : Addr, b ∉ (lamCx X A outer s1 HZ E scope f k).ex := fun b z => absurd (show b ∈ ([] : List Addr) from z) (by simp)
  have okL : (lamCx X A outer s1 HZ E scope f k).Ok := by
    refine ⟨e0.mod, L.kind, rfl, rfl, Nat.le_refl _, fun y z c g1 g2 => I.ok.inj y z c (old g1) (old g2), fun y hy => ?_, fun y c z _ => ?_, fun _ => hd, Around.frames_deeper e0.frames, .inr ⟨rfl, rfl⟩, fun b z => absurd z (noX b), e0.bs, e0.bsz, fun b _ _ => noX b, fun b z => absurd z (noX b), e0.funs, e0.frf⟩
    · have hy : scope.names.lookup y = some .cell ∨ scope.names.lookup y = some .free := hy
      rcases hy with hy | hy
      · exact absurd rfl (L.own _ (PySem.mem_of_lookup hy)).2
      · exact taken hy
    · have z : false = true := z
      cases z
  refine ⟨okL, rfl, e0.bare, Un.kept grow, ⟨_, ns, fun i y v g1 g2 g3 => ?_⟩, fun y c g => ?_, e0.hok.fresh (Nat.le_refl _), fun y c g => ?_, fun q hq => absurd (show q ∈ ([] : List (Addr × Obj)) ++ [] from hq) (by simp), e0.hok.kept grow, I.len⟩
  · have g3 : Vis scope y := g3
    rcases g3 with m | m | m
    · exact absurd rfl (L.own _ (PySem.mem_of_lookup m)).1
    · exact absurd rfl (L.own _ (PySem.mem_of_lookup m)).2
    · obtain ⟨mm, _, look⟩ := I.loc
      have vis : Vis X.env.scope y := (L.free _ (PySem.mem_of_lookup m) rfl).elim (fun z => .inr (.inl z)) fun z => .inr (.inr z)
      obtain ⟨u, ru, q⟩ := look i y v g1 g2 vis
      obtain ⟨c2, hc2⟩ := taken m
      have c1 := old hc2
      refine ⟨u, ru, .inr ⟨.inr m, c2, hc2, ?_⟩⟩
      rcases q with ⟨lc, _⟩ | ⟨_, c3, g, z⟩
      · have lc : X.env.scope.names.lookup y = some .local := lc
        rcases L.free _ (PySem.mem_of_lookup m) rfl with k2 | k2 <;> rw [show X.env.scope.names.lookup y = _ from k2] at lc <;> cases lc
      · rw [c1] at g
        cases g
        exact still c1 z
  · obtain ⟨u, z⟩ := I.cell y c (old g)
    exact ⟨u, still (old g) z⟩
  · obtain ⟨v, o, ho, od⟩ := I.cell y c (old g)
    exact un.free c o ho (I.freeC y c (old g)) (notIn (old g))
/-- a lambda's words are fit to be called: no name of its own, no parameter -/
structure LamOk (sc : Scope) (d : LamD) : Prop where
  s : LamS sc d.2.2
  b : ∀ (q : Str) (cl : List (Str × Addr)) (pm cv tv : Value), bindArgs (PySem.W.kla_fn "<lambda>" q d.1 d.2.1 d.2.2 cl pm cv tv) ⟨[], []⟩ = pure []
variable {Z : Am} {rt : Rt} {W : WX} {L : Nat → Option LamD} {j n : Nat} {δ0 : Slots} {mb : SE}
theorem pv_act {Eg : XK} {Ng : List Str} {qg : Str} {sg : Scope} {g : Addr} {cdg : Value} {i : Nat} {a : Str} {pn : List (Addr × Obj)} {xe : Value → Shared → Prop} {p1 p2 : Pos} {H1 : Hp}
    (I : Inv X pins σ H s) (LS : ∀ d, L j = some d → LamOk X.env.scope d) (un1 : Un (frs X.stack) fp H H1 s.heap s1.heap) (hfp : ∀ b ∈ fp, ∀ x c, X.env.cells.lookup x = some c → c ≠ b)
    (tk : Takes ((cxOf (L2.CX X.prog X.w) X.prog X.w X.K X.mg X.base Ng qg sg g cdg X.A X.stack s1 H1 Eg).tr pn xe) W) (hr : RoomG (n + 1) (X.A.deeper (envOfC qg sg s1.heap.objs.size g cdg)))
    (hbody : ∀ d, L j = some d → ∀ (A : Around) (outer : List Env) (s : Shared) (H : Hp) (E : XK) (f k : Addr), RoomG n (A.deeper (lamEnv X d.2.2 s.heap.objs.size f k)) → PE (lamCx X A outer s H E d.2.2 f k) d.2.1 (tE (Zf Z (X.env.qual ++ "<lambda>") X.env.cells L) rt (fun cls d _ H' => E cls d H') mb))
    (hN : Ng[i]? = some a) (hv : Vis sg a) (nm : NmOk a) :
    PE ((cxOf (L2.CX X.prog X.w) X.prog X.w X.K X.mg X.base Ng qg sg g cdg X.A X.stack s1 H1 Eg).tr pn xe) (.Call (.Name a p1) [] [] p2) (tE (Zg Z (X.env.qual ++ "<lambda>") X.env.cells L j δ0 σ) rt W (actE i fun M => mb rt δ0 M)) := by
  refine ⟨fun pinsZ sZ τ G Q IZ ⟨ρ, M, δ, r, sl, q⟩ => ?_⟩
  unfold actE at q
  split at q
  case h_2 => exact q.elim
  rename_i hd
  obtain ⟨v, hv1, f, ev, _, ⟨d, k, hL, g1, g2⟩, gh⟩ := sl.at_ i _ hd
  subst ev
  refine wpAny_Call_Name_kw (thn ((pe_var (pos := p1) (i := i) hN hv nm.d nm.c).run pinsZ sZ τ G (fun v H1 => v = .ref f ∧ H1 = G) IZ ⟨.ref f, hv1, rfl, rfl⟩) fun u s2 ⟨v, G', I2, r2, q2⟩ => ?_)
  obtain ⟨ev, eG⟩ := q2
  subst ev eG
  obtain rfl : u = Value.ref f := r2
  obtain ⟨pm, tv, objF⟩ := lamO_get I2.hok g1
  refine PySem.W.callWith_F0 ⟨_, _, _, _, objF⟩ ?_
  have lo := LS d hL
  have un2 : Un (frs X.stack) [] H1 G' s1.heap s2.heap := I2.base
  have unA : Un (frs X.stack) fp H G' s.heap s2.heap := un1.trans
    ⟨fun b o e n h1 _ => un2.keep b o e n h1 (by simp), fun b o e n h1 _ => un2.slot b o e n h1 (by simp), fun b o e n _ => un2.free b o e n (by simp), fun b o e _ => un2.there b o e (by simp), un2.tups, un2.frzs, un2.tbls⟩
  have rc : codeAny (model X.prog X.w) (X.A.deeper (envOfC qg sg s1.heap.objs.size g cdg)) (.call (.ref f) ⟨[], []⟩) (CR (L2.CX X.prog X.w) (envOfC qg sg s1.heap.objs.size g cdg :: X.stack) X.prog X.w G' s2 Q (WE W τ)) s2 := by
    refine PySem.W.kla_callFunE hr.r.depth objF rfl lo.s.co lo.s.gen rfl (codeO_get I2.hok g2) ?_
    rw [lo.b]
    refine wpAny_pure (wpAny_newFunctionEnv (fun y hy => (lo.s.own y hy).2) (fun y hy => absurd hy (by simp)) (fun h₁ hns hsb => ⟨I2.nolimit.fresh _ hsb, ?_⟩) lo.s.kind)
    show codeAny _ _ (.expr d.2.1 (lamEnv X d.2.2 s2.heap.objs.size f k)) _ _
    have grow : ∀ b o, s2.heap.get? b = some o → h₁.get? b = some o := fun b o e => hsb.extBut b o (Nat.ne_of_lt (Heap.lt_size e)) (Heap.get?_push_of_some _ e)
    have J : Inv (lamCx X (X.A.deeper (envOfC qg sg s1.heap.objs.size g cdg)) (envOfC qg sg s1.heap.objs.size g cdg :: X.stack) s2 G' (WE W τ) d.2.2 f k) [] σ G' { s2 with heap := h₁, toks := s2.toks + ([] : List (Str × Value)).length } :=
      lam_into I lo.s I2.env0 hr.r.hd unA hfp hns grow
    have body : tE (Zf Z (X.env.qual ++ "<lambda>") X.env.cells L) rt (fun cls d _ H' => WE W τ cls d H') mb σ G' Q := by
      refine ⟨ρ, M, δ0, rl_am r, gh, ?_⟩
      replace q : PostE (outE (mb rt δ0 M)) (stdO (Zg Z (X.env.qual ++ "<lambda>") X.env.cells L j δ0 σ) ρ G' Q) (stdX (Zg Z (X.env.qual ++ "<lambda>") X.env.cells L j δ0 σ) W ρ G' τ) := q
      revert q
      cases mb rt δ0 M with
      | ok d0 M1 =>
        cases d0 with
        | p y => exact fun q ρ' v H' e r p => q ρ' v H' e (rl_am r) p
        | loc m => exact fun q ρ' v H' e r p => q ρ' v H' e (rl_am r) p
        | clo m => exact fun q => q.elim
        | clos m => exact fun q => q.elim
      | exc x M1 => exact fun q ρ' cls dx H' e r xr => q ρ' cls dx H' e (rl_am r) xr
      | bad => exact fun q => q.elim
    refine PySem.W.kla_codeExpr (wpAny_mono ((hbody d hL _ _ s2 G' _ f k (hr.deeper _)).run [] _ σ G' Q J body) (fun v s' hq => ?_) fun e s' hq => hq)
    obtain ⟨w', H', J', rv, q⟩ := hq
    exact ⟨w', H', J'.os, J'.bare, J'.base, J'.hok, rv, q⟩
  refine wpAny_call (codeAny_mono rc fun r s' hq => ?_)
  cases r with
  | error e => exact passAt tk τ pinsZ G' s2 e s' I2 hq
  | ok fl =>
    cases fl with
    | ret u => exact I2.after hq
    | next => exact False.elim hq
    | brk => exact False.elim hq
    | cont => exact False.elim hq
end
/-- a def with one parameter, a lambda without parameters: x its name, N its slots, mw what it makes of the lambda's call -/
structure Wd (Pg : Program) (w : World) (mg : Str → Option Value) (base : Heap) (B : Bm) (T : List (Addr × Str)) (rt : Rt) (n : Nat) (x : Str) (N : Nat) (mw : (Mem → RE) → SS) : Prop where
  ex : ∃ (gA : Addr) (fd : FuncData) (params : Arguments) (body : List Stmt) (scope : Scope) (a : Str) (Ng : List Str), FunD B.K x x params body scope [] [] gA fd ∧ FnScope Ng [a] scope ∧ Ng.length = N ∧ Ng[0]? = some a ∧ Vis scope a ∧ NmOk a ∧ mg x = some (.ref gA) ∧ PySem.W.keepIn B.K (.ref gA) = true ∧
    (∀ (s : Shared) (u : Value), BindsTo s fd ⟨[u], []⟩ [(a, u)]) ∧
    ∀ (lam : Nat → Addr → Rho → Hp → Prop) (lamK : ∀ j a ρ H ρ' H', lam j a ρ H → Ext ρ H ρ' H' → lam j a ρ' H') (r : Mem → RE) (cdv : Value) (A : Around) (outer : List Env) (s : Shared) (H : Hp) (E : XK), (∀ u ρ H, ¬ lam 1000 u ρ H) →
      RoomG (n + 1) (A.deeper (envOfC x scope s.heap.objs.size gA cdv)) →
      (∀ (W : WX) (pn : List (Addr × Obj)) (xe : Value → Shared → Prop) (p1 p2 : Pos), Takes ((cxOf (L2.CX Pg w) Pg w B.K mg base Ng x scope gA cdv A outer s H E).tr pn xe) W → PE ((cxOf (L2.CX Pg w) Pg w B.K mg base Ng x scope gA cdv A outer s H E).tr pn xe) (.Call (.Name a p1) [] [] p2) (tE ⟨B, T, lam, lamK⟩ rt W (actE 0 r))) →
      PSs (cxOf (L2.CX Pg w) Pg w B.K mg base Ng x scope gA cdv A outer s H E) body (tS ⟨B, T, lam, lamK⟩ rt (fun cls d _ H' => E cls d H') (mw r))
def runW (N : Nat) (m : SS) (rt : Rt) (M : Mem) : RE := (m rt (some (.clo 0) :: List.replicate (N - 1) none) M).out
/-- x(e), e a lambda; lams: the frame's lambdas -/
def wordE (N : Nat) (mw : (Mem → RE) → SS) (lams : Nat → SE) (me : SE) : SE := fun rt δ M => (me rt δ M).bind fun d M1 => match d with
  | .clo j => runW N (mw fun M2 => lams j rt δ M2) rt M1
  | _ => .bad
section
variable {X : Cx} {pins : List (Addr × Obj)} {σ : L2.St} {H : Hp} {s s1 : Shared} {fp : List Addr} {Z : Am} {rt : Rt} {W : WX} {L : Nat → Option LamD} {lams : Nat → SE} {j n N : Nat} {δ0 : Slots} {x : Str} {mw : (Mem → RE) → SS}
theorem word_run {gA : Addr} {fd : FuncData} {params : Arguments} {body : List Stmt} {scope : Scope} {a : Str} {Ng : List Str} {ρ : Rho} {M : Mem} {H1 : Hp} {f : Addr} {Q : VK} {E : XK} (I : Inv X pins σ H s)
    (F : FunD Z.K x x params body scope [] [] gA fd) (S : FnScope Ng [a] scope) (hN : Ng[0]? = some a) (hv : Vis scope a) (nm : NmOk a) (hb : ∀ (s : Shared) (u : Value), BindsTo s fd ⟨[u], []⟩ [(a, u)]) (hK : X.K = Z.K)
    (hw : ∀ (lam : Nat → Addr → Rho → Hp → Prop) (lamK : ∀ j a ρ H ρ' H', lam j a ρ H → Ext ρ H ρ' H' → lam j a ρ' H') (r : Mem → RE) (cdv : Value) (A : Around) (outer : List Env) (s : Shared) (H : Hp) (E : XK), (∀ u ρ H, ¬ lam 1000 u ρ H) →
      RoomG (n + 1) (A.deeper (envOfC x scope s.heap.objs.size gA cdv)) →
      (∀ (W : WX) (pn : List (Addr × Obj)) (xe : Value → Shared → Prop) (p1 p2 : Pos), Takes ((cxOf (L2.CX X.prog X.w) X.prog X.w Z.K X.mg X.base Ng x scope gA cdv A outer s H E).tr pn xe) W → PE ((cxOf (L2.CX X.prog X.w) X.prog X.w Z.K X.mg X.base Ng x scope gA cdv A outer s H E).tr pn xe) (.Call (.Name a p1) [] [] p2) (tE ⟨Z.toBm, Z.T, lam, lamK⟩ rt W (actE 0 r))) →
      PSs (cxOf (L2.CX X.prog X.w) X.prog X.w Z.K X.mg X.base Ng x scope gA cdv A outer s H E) body (tS ⟨Z.toBm, Z.T, lam, lamK⟩ rt (fun cls d _ H' => E cls d H') (mw r)))
    (LS : ∀ d, L j = some d → LamOk X.env.scope d) (un1 : Un (frs X.stack) fp H H1 s.heap s1.heap) (hfp : ∀ b ∈ fp, ∀ x c, X.env.cells.lookup x = some c → c ≠ b) (e0 : Env0 X.prog X.w X.K X.mg X.base X.A X.stack s1 H1) (hr : RoomG (n + 2) X.A)
    (hbody : ∀ d, L j = some d → ∀ (A : Around) (outer : List Env) (s : Shared) (H : Hp) (E : XK) (f k : Addr), RoomG n (A.deeper (lamEnv X d.2.2 s.heap.objs.size f k)) → PE (lamCx X A outer s H E d.2.2 f k) d.2.1 (tE (Zf Z (X.env.qual ++ "<lambda>") X.env.cells L) rt (fun cls d _ H' => E cls d H') (lams j)))
    (hf : LamR (X.env.qual ++ "<lambda>") X.env.cells L j f H1) (r : Rl (Zf Z (X.env.qual ++ "<lambda>") X.env.cells L) ρ M H1) (gs : SlO (Zf Z (X.env.qual ++ "<lambda>") X.env.cells L) ρ H1 δ0 σ)
    (hq : PostE (runW Ng.length (mw fun M2 => lams j rt δ0 M2) rt M) (stdO (Zf Z (X.env.qual ++ "<lambda>") X.env.cells L) ρ H1 Q) (stdK (Zf Z (X.env.qual ++ "<lambda>") X.env.cells L) E ρ H1)) :
    codeAny (model X.prog X.w) X.A (.call (.ref gA) ⟨[.ref f], []⟩) (CR (L2.CX X.prog X.w) X.stack X.prog X.w H1 s1 Q E) s1 := by
  obtain ⟨oc, od, dV, kV, doc, pm, an, cdv, ct, osl, rfl, lk, hcd, _, _⟩ := F.ex
  refine run_ofS (N := Ng) (ps := [a]) (us := [.ref f]) (vs := [.ref f]) (by rw [hK]; exact lk) (by rw [hK]; exact hcd) S hr.r e0 (hb s1 (.ref f)) (.cons rfl .nil) rfl fun _ => ?_
  have hr1 := hr.deeper (envOfC x scope s1.heap.objs.size gA cdv)
  have key := hw (Zg Z (X.env.qual ++ "<lambda>") X.env.cells L j δ0 σ).lam (Zg Z (X.env.qual ++ "<lambda>") X.env.cells L j δ0 σ).lamK (fun M2 => lams j rt δ0 M2) cdv X.A X.stack s1 H1 E (fun u ρ H z => by cases z.1) hr1 fun W pn xe p1 p2 tk => by
    have z := pv_act (Z := Z) (δ0 := δ0) (p1 := p1) (p2 := p2) (i := 0) I LS un1 hfp (by rw [hK]; exact tk) hr1 hbody hN hv nm
    rw [hK] at z
    exact z
  rw [hK]
  refine ⟨_, key, ⟨ρ, M, some (.clo 0) :: List.replicate (Ng.length - 1) none, rl_am r, ?_, ?_⟩⟩
  · have hl : 1 ≤ Ng.length := by
      rcases Nat.lt_or_ge 0 Ng.length with h | h
      · exact h
      · rw [List.getElem?_eq_none h] at hN; cases hN
    refine ⟨by unfold L2.start; simp, fun i d hd => ?_⟩
    cases i with
    | zero =>
      cases hd
      exact ⟨.ref f, by unfold L2.start; simp, f, rfl, rfl, hf, gs⟩
    | succ i =>
      rw [List.getElem?_cons_succ, List.getElem?_replicate] at hd
      split at hd <;> cases hd
  · unfold runW at hq
    revert hq
    cases mw (fun M2 => lams j rt δ0 M2) rt (some (.clo 0) :: List.replicate (Ng.length - 1) none) M with
    | nx δ M1 => exact fun q ρ' σ' H' e r s => q ρ' .non H' e (rl_am r) (by show Rep Z _ _ _; unfold Rep; rfl)
    | rt d M1 =>
      cases d with
      | p y => exact fun q ρ' v H' e r p => q ρ' v H' e (rl_am r) p
      | loc m => exact fun q ρ' v H' e r p => q ρ' v H' e (rl_am r) p
      | clo m => exact fun q => q.elim
      | clos m => exact fun q => q.elim
    | bk δ M1 => exact fun q => q.elim
    | ct δ M1 => exact fun q => q.elim
    | exc x δ M1 => exact fun q ρ' σ' cls dx H' e r s xr => q ρ' cls dx H' e (rl_am r) xr
    | bad => exact fun q => q.elim
/-- x(e), in the frame that makes the lambdas -/
theorem eWord {e : Expr} {me : SE} {p pos : Pos} (C : Ct X (Zf Z (X.env.qual ++ "<lambda>") X.env.cells L) W (n + 2)) (D : Wd X.prog X.w X.mg X.base Z.toBm Z.T rt n x N mw) (hg : Gl X x) (nm : NmOk x)
    (LS : ∀ j d, L j = some d → LamOk X.env.scope d)
    (hbody : ∀ j d, L j = some d → ∀ (A : Around) (outer : List Env) (s : Shared) (H : Hp) (E : XK) (f k : Addr), RoomG n (A.deeper (lamEnv X d.2.2 s.heap.objs.size f k)) → PE (lamCx X A outer s H E d.2.2 f k) d.2.1 (tE (Zf Z (X.env.qual ++ "<lambda>") X.env.cells L) rt (fun cls d _ H' => E cls d H') (lams j)))
    (he : PE X e (tE (Zf Z (X.env.qual ++ "<lambda>") X.env.cells L) rt W me)) (hs : notStar e = true) :
    PE X (.Call (.Name x p) [e] [] pos) (tE (Zf Z (X.env.qual ++ "<lambda>") X.env.cells L) rt W (wordE N mw lams me)) := by
  obtain ⟨gA, fd, params, body, scope, a, Ng, F, S, hl, hN, hv, na, hm, hk, hb, hw⟩ := D.ex
  have hK : X.K = Z.K := C.K
  refine ⟨fun pins s σ H Q I h => ?_⟩
  refine wpAny_Call_Name_kw (ld_glob I hg hm ?_ nm.d)
  obtain ⟨ρ, M, δ, r, sl, q⟩ := h
  have h1 : tE (Zf Z (X.env.qual ++ "<lambda>") X.env.cells L) rt W me σ H fun v H1 => ∃ ρ1 M1 j f, v = .ref f ∧ LamR (X.env.qual ++ "<lambda>") X.env.cells L j f H1 ∧ Rl (Zf Z (X.env.qual ++ "<lambda>") X.env.cells L) ρ1 M1 H1 ∧ SlO (Zf Z (X.env.qual ++ "<lambda>") X.env.cells L) ρ1 H1 δ σ ∧
      PostE (runW N (mw fun M2 => lams j rt δ M2) rt M1) (stdO (Zf Z (X.env.qual ++ "<lambda>") X.env.cells L) ρ1 H1 Q) (stdX (Zf Z (X.env.qual ++ "<lambda>") X.env.cells L) W ρ1 H1 σ) := by
    refine tE.thn (useEE (ρ0 := ρ) (H0 := H) r sl Ext.refl q) fun v H1 ⟨ρ1, M1, d1, e1, r1, p1, q1⟩ => ?_
    split at q1
    · rename_i j
      obtain ⟨f, ef, lf⟩ := p1
      refine ⟨ρ1, M1, j, f, ef, lf, r1, sl.ext e1, ?_⟩
      revert q1
      cases runW N (mw fun M2 => lams j rt δ M2) rt M1 with
      | ok d M2 => exact fun q => q.mono e1
      | exc y M2 => exact fun q ρ' cls dx H' e r xr => q ρ' cls dx H' (e1.trans e) r xr
      | bad => exact id
    · exact q1.elim
  have hA := (pa_cons he pa_nil (star_of hs)).run pos pins s σ H (fun vs H1 => match vs with
      | [v] => ∃ ρ1 M1 j f, v = .ref f ∧ LamR (X.env.qual ++ "<lambda>") X.env.cells L j f H1 ∧ Rl (Zf Z (X.env.qual ++ "<lambda>") X.env.cells L) ρ1 M1 H1 ∧ SlO (Zf Z (X.env.qual ++ "<lambda>") X.env.cells L) ρ1 H1 δ σ ∧
        PostE (runW N (mw fun M2 => lams j rt δ M2) rt M1) (stdO (Zf Z (X.env.qual ++ "<lambda>") X.env.cells L) ρ1 H1 Q) (stdX (Zf Z (X.env.qual ++ "<lambda>") X.env.cells L) W ρ1 H1 σ)
      | _ => False) I h1
  refine PySem.W.callWith_K (h₀ := X.base) I.ok.mod.kin (by rw [hK]; exact hk) (thn hA fun us s1 ⟨vs, H1, I1, r1, q1⟩ => ⟨I1.kIn, ?_⟩) (star_of hs) (by rfl)
  have q2 : ∃ v, vs = [v] ∧ ∃ ρ1 M1 j f, v = .ref f ∧ LamR (X.env.qual ++ "<lambda>") X.env.cells L j f H1 ∧ Rl (Zf Z (X.env.qual ++ "<lambda>") X.env.cells L) ρ1 M1 H1 ∧ SlO (Zf Z (X.env.qual ++ "<lambda>") X.env.cells L) ρ1 H1 δ σ ∧
      PostE (runW N (mw fun M2 => lams j rt δ M2) rt M1) (stdO (Zf Z (X.env.qual ++ "<lambda>") X.env.cells L) ρ1 H1 Q) (stdX (Zf Z (X.env.qual ++ "<lambda>") X.env.cells L) W ρ1 H1 σ) := by
    revert q1
    match vs with
    | [v] => exact fun q => ⟨v, rfl, q⟩
    | [] => exact fun q => False.elim q
    | _ :: _ :: _ => exact fun q => False.elim q
  obtain ⟨v, ev, ρ1, M1, j, f, ef, lf, r2, s2, q3⟩ := q2
  subst ev ef
  obtain ⟨u, eu, ru⟩ := vals1 r1
  subst eu
  obtain rfl : u = Value.ref f := ru
  have rc : codeAny (model X.prog X.w) X.A (.call (.ref gA) ⟨[.ref f], []⟩) (CR (L2.CX X.prog X.w) X.stack X.prog X.w H1 s1 Q (WE W σ)) s1 :=
    word_run (fp := []) (lams := lams) (j := j) (δ0 := δ) I1 F S hN hv na hb hK hw (LS j) Un.refl (fun b z => nomatch z) I1.env0 C.room (hbody j) lf r2 s2 (by rw [hl]; exact q3)
  show wpAny _ _ (call (.ref gA) [.ref f]) _ _ _
  refine wpAny_call (codeAny_mono rc fun r s' hq => ?_)
  cases r with
  | error e => exact passAt C.tk σ pins H1 s1 e s' I1 hq
  | ok fl =>
    cases fl with
    | ret u => exact I1.after hq
    | next => exact False.elim hq
    | brk => exact False.elim hq
    | cont => exact False.elim hq
end
end FW
/-! FxH: defs that make lambdas; suites; what the printer uses. -/
namespace FW
open PySem PySem.Spec PyProof.Rows L2 LamX
theorem Ct.mono {X : Cx} {Z : Am} {W : WX} {i n : Nat} (C : Ct X Z W n) (h : i ≤ n) : Ct X Z W i := ⟨C.K, C.calm, C.nd, C.room.mono h, C.tk⟩
/-- calls take and give no lambdas -/
structure PlainRt (rt : Rt) : Prop where
  i : ∀ k ds M, plainD ds = false → rt.call k ds M = .bad
  o : ∀ k ds M, outE (rt.call k ds M) = rt.call k ds M
theorem out_outE (r : RS) : outE r.out = r.out := by
  cases r with
  | rt d M => cases d <;> rfl
  | _ => rfl
theorem plain_rtN (T : Tbl) (L : Nat) : ∀ n, PlainRt (rtN T L n)
  | 0 => ⟨fun _ _ _ _ => rfl, fun _ _ _ => rfl⟩
  | n + 1 => ⟨fun k ds M h => by
      show (match T k with | some (N, m) => if plainD ds then runS N m (rtN T L n) ds M else .bad | none => .bad) = RE.bad
      cases T k with
      | none => rfl
      | some q => exact if_neg (by rw [h]; exact Bool.false_ne_true), fun k ds M => by
      show outE (match T k with | some (N, m) => if plainD ds then runS N m (rtN T L n) ds M else .bad | none => .bad) = (match T k with | some (N, m) => if plainD ds then runS N m (rtN T L n) ds M else .bad | none => .bad)
      cases T k with
      | none => rfl
      | some q =>
        cases h : plainD ds with
        | true =>
          simp only [if_true]
          exact out_outE _
        | false => rfl⟩
theorem repDs_pl {B : Bm} {T : List (Addr × Str)} {l l' : Nat → Addr → Rho → Hp → Prop} {k k'} {ρ : Rho} {H : Hp} : ∀ {ds : List D} {vs : List V}, plainD ds = true → RepDs ⟨B, T, l, k⟩ ρ H ds vs → RepDs ⟨B, T, l', k'⟩ ρ H ds vs
  | [], vs, _, h => h
  | .p x :: ds, vs, n, ⟨v, r, h1, h2, h3⟩ => ⟨v, r, h1, h2, repDs_pl (ds := ds) n h3⟩
  | .loc m :: ds, vs, n, ⟨v, r, h1, h2, h3⟩ => ⟨v, r, h1, h2, repDs_pl (ds := ds) n h3⟩
  | .clo _ :: ds, vs, n, h => by cases n
  | .clos _ :: ds, vs, n, h => by cases n
theorem spD_lam {B : Bm} {T : List (Addr × Str)} {l l' : Nat → Addr → Rho → Hp → Prop} {k k'} {rt : Rt} {n f : Nat} {vs : List V} {H : Hp} {Q : VK} {E : XK} (pl : PlainRt rt) (h : spD ⟨B, T, l, k⟩ n (rt.call f) vs H Q E) : spD ⟨B, T, l', k'⟩ n (rt.call f) vs H Q E := by
  obtain ⟨hl, ρ, M, ds, r, p, q⟩ := h
  have hp : plainD ds = true := by
    cases hc : plainD ds with
    | true => rfl
    | false =>
      rw [pl.i f ds M hc] at q
      exact q.elim
  refine ⟨hl, ρ, M, ds, rl_am r, repDs_pl hp p, ?_⟩
  have ho := pl.o f ds M
  revert q ho
  cases rt.call f ds M with
  | ok d M1 =>
    cases d with
    | p y => exact fun q _ ρ' v H' e r p => q ρ' v H' e (rl_am r) p
    | loc m => exact fun q _ ρ' v H' e r p => q ρ' v H' e (rl_am r) p
    | clo m => exact fun _ z => by cases z
    | clos m => exact fun _ z => by cases z
  | exc x M1 => exact fun q _ ρ' cls dx H' e r xr => q ρ' cls dx H' e (rl_am r) xr
  | bad => exact fun q _ => q
theorem FnG.imp {P : Program} {w : World} {K : PySem.W.Frag} {mg : Str → Option Value} {base : Heap} {k : Nat} {f : Addr} {fd : FuncData} {ps : List Str} {sp sp' : Sp} (F : FnG P w K mg base k f fd ps sp) (h : ∀ vs H Q E, sp' vs H Q E → sp vs H Q E) : FnG P w K mg base k f fd ps sp' :=
  ⟨fun vs H Q E q => F.len vs H Q E (h _ _ _ _ q), fun A outer s H args us vs Q E hr he hb hv hs => F.run A outer s H args us vs Q E hr he hb hv (h _ _ _ _ hs)⟩
theorem Cal.lam {Pg : Program} {w : World} {mg : Str → Option Value} {base : Heap} {B : Bm} {T : List (Addr × Str)} {l l' : Nat → Addr → Rho → Hp → Prop} {lk lk'} {rt : Rt} {k : Nat} {x : Str} {f j : Nat} {dfl : List P} (pl : PlainRt rt) (c : Cal Pg w mg base ⟨B, T, l, lk⟩ rt k x f j dfl) : Cal Pg w mg base ⟨B, T, l', lk'⟩ rt k x f j dfl := by
  obtain ⟨fA, fd, ps, ds, dvs, F, h1, h2, h3, h4, h5, h6⟩ := c.ex
  exact ⟨fA, fd, ps, ds, dvs, F.imp fun vs H Q E h => spD_lam pl h, h1, h2, h3, h4, h5, h6⟩
theorem GlV.lam {mg : Str → Option Value} {B : Bm} {T : List (Addr × Str)} {l l' : Nat → Addr → Rho → Hp → Prop} {lk lk'} {x : Str} {d : P} (g : GlV mg ⟨B, T, l, lk⟩ x d) : GlV mg ⟨B, T, l', lk'⟩ x d := ⟨g.ex⟩
/-- the rule for a def that makes lambdas -/
theorem fnG_ofL {P : Program} {w : World} {K : PySem.W.Frag} {mg : Str → Option Value} {base : Heap} {k : Nat} {rt : Rt} {Z : Am} {x qual : Str} {p : He.Defn} {params : Arguments} {body : List Stmt} {scope : Scope} {dvs : List V} {kws : List (Str × V)} {fd : FuncData} {N ps : List Str} {m : SS} {L : Nat → Option LamD}
    (F : FunD K x qual params body scope dvs kws (He.fAd K p) fd) (S : FnScope N ps scope)
    (hbody : ∀ (cdv : Value) (A : Around) (outer : List Env) (s : Shared) (H : Hp) (E : XK), cdv = .ref (He.codeOf K p) → RoomG k (A.deeper (envOfC qual scope s.heap.objs.size (He.fAd K p) cdv)) →
      PSs (cxOf (L2.CX P w) P w K mg base N qual scope (He.fAd K p) cdv A outer s H E) body (tS (Zf Z ((envOfC qual scope s.heap.objs.size (He.fAd K p) cdv).qual ++ "<lambda>") (envOfC qual scope s.heap.objs.size (He.fAd K p) cdv).cells L) rt (fun cls d _ H' => E cls d H') m)) :
    FnG P w K mg base (k + 1) (He.fAd K p) fd ps (spD Z ps.length fun ds M => if plainD ds then runS N.length m rt ds M else .bad) := by
  obtain ⟨oc, od, dV, kV, doc, pm, an, cdv, ct, osl, rfl, lk, hcd, _, _⟩ := F.ex
  obtain ⟨c, ec⟩ := He.codeIn_ref hcd
  have ecd : cdv = .ref (He.codeOf K p) := by rw [He.codeOf_eq lk (c := c) ec]; exact ec
  refine ⟨fun vs H Q E h => h.1, fun A outer s H args us vs Q E hr e0 hb r hsp => ?_⟩
  obtain ⟨hl, ρ, M, ds, r0, p0, q0⟩ := hsp
  replace q0 : PostE (if plainD ds then runS N.length m rt ds M else .bad) (stdO Z ρ H Q) (stdK Z E ρ H) := q0
  have hp : plainD ds = true := by
    cases hc : plainD ds with
    | true => rfl
    | false =>
      rw [hc, if_neg Bool.false_ne_true] at q0
      exact q0.elim
  rw [hp, if_pos rfl] at q0
  refine run_ofS lk hcd S hr.r e0 hb r (by rw [hl]) fun _ => ⟨_, hbody cdv A outer s H E ecd (hr.deeper _), ?_⟩
  refine ⟨ρ, M, _, rl_am r0, slO_start (repDs_pl hp p0), ?_⟩
  unfold runS at q0
  revert q0
  cases m rt (ds.map some ++ List.replicate (N.length - ds.length) none) M with
  | nx δ M1 => exact fun q ρ' σ' H' e r s => q ρ' .non H' e (rl_am r) (by show Rep Z _ _ _; unfold Rep; rfl)
  | rt d M1 =>
    cases d with
    | p y => exact fun q ρ' v H' e r p => q ρ' v H' e (rl_am r) p
    | loc n => exact fun q ρ' v H' e r p => q ρ' v H' e (rl_am r) p
    | clo j => exact fun q => q.elim
    | clos js => exact fun q => q.elim
  | bk δ M1 => exact fun q => q.elim
  | ct δ M1 => exact fun q => q.elim
  | exc x δ M1 => exact fun q ρ' σ' cls dx H' e r s ex => q ρ' cls dx H' e (rl_am r) ex
  | bad => exact fun q => q.elim
/-- what a suite's context has -/
structure Cs (X : Cx) (Z : Am) : Prop where
  K : X.K = Z.K
  g : X.A.guards = some []
  u : X.A.units + 130 < cLine
theorem Ct.su {X : Cx} {Z : Am} {W : WX} {n : Nat} (C : Ct X Z W n) (a : Addr) (pn : List (Addr × Obj)) : Cs (X.suite a pn) Z := ⟨C.K, C.room.g, C.u130⟩
theorem Cs.u65 {X : Cx} {Z : Am} (C : Cs X Z) : X.A.units + 65 < cLine := by have := C.u; omega
theorem Cs.zs {X : Cx} {Z : Am} (C : Cs X Z) (a : Addr) (cls : Value) (dx : Option Addr) (p : P) (f : Str) : Cs X (Zs Z a cls dx p f) := ⟨C.K, C.g, C.u⟩
section
variable {X : Cx} {Z : Am} {rt : Rt} {W : WX} {a b e : Expr} {ma mb me : SE} {mas : SA} {es : List Expr} {pos p : Pos}
theorem sAdd (C : Cs X Z) (mk : Bool) (ha : PE X a (tE Z rt W ma)) (hb : PE X b (tE Z rt W mb)) : PE X (.BinOp a .Add b pos) (tE Z rt W (binE (addD mk) ma mb)) := pv_bin (addD_noX mk) (op_addD C.K mk) ha hb
theorem sRepr (C : Cs X Z) (hg : Gl X "repr") (hm : X.mg "repr" = none) (hp : plainArgs (e :: es) = true) (ha : PA X (e :: es) (tA Z rt W mas)) : PE X (.Call (.Name "repr" p) (e :: es) [] pos) (tE Z rt W (callB reprD mas)) :=
  eB reprD_noX (cr_reprD C.K C.g C.u65) hg hm (by decide +kernel) (nmOk_of (by decide +kernel)) hp ha
theorem sEq (C : Cs X Z) (ha : PE X a (tE Z rt W ma)) (hb : PE X b (tE Z rt W mb)) (hm : behindInMarks .Eq b = false) : PE X (.Compare a [.Eq] [b] pos) (tE Z rt W (binE (eqD false) ma mb)) := pv_cmp (eqD_noX false) (op_eqDD C.K C.u65) ha hb hm
end
end FW
/-! FxI: the law's end, with tables. -/
namespace FW
open PySem PySem.Spec PyProof.Rows L2 LamX
/-- the abstract heap at the law's call: the tables are known; the script, where it is none of the written part -/
def startH (ts : List Addr) (sc : Option (Addr × HO)) : Hp := fun b => match sc with
  | some (a, o) => if b = a then some o else if b ∈ ts then some (.tbl #[]) else none
  | none => if b ∈ ts then some (.tbl #[]) else none
theorem law_callT {Pg : Program} {w : World} {Z : Am} {mg mb : Str → Option Value} {k : Nat} {fa a : Addr} {cs : List (Addr × Addr)} {fd : FuncData} {x : Str} {call : List D → Mem → RE} {s₁ : Shared} {vs : List Value} {ns : List Int}
    (KX : Z.K.In s₁.heap) (hns : s₁.heap.Ns mainGlobals mg) (hb : s₁.heap.Ns builtinsNs mb) (hbb : ∀ x : Str, x ≠ "__name__" → mb x = bootBuiltins x) (hlim : s₁.heap.NoLimit) (hg : s₁.gens = #[])
    (hT : ∀ p ∈ cs, s₁.heap.get? p.2 = some { cls := .none, data := .fields #[] }) (nT : ∀ p ∈ cs, Z.K.lookup p.2 = none) (C : ∀ p ∈ cs, PySem.W.CodeHd s₁.heap p.1 p.2)
    (hbm : ∃ (bm : Addr) (ob : Obj), mg "__builtins__" = some (.ref bm) ∧ bm ≠ builtinsNs ∧ s₁.heap.get? bm = some ob ∧ ob.cls = .type "module" ∧ ob.dict = some builtinsNs ∧ ob.data = .plain)
    (ha : s₁.heap.get? a = some { cls := .type "list", data := .seq vs.toArray }) (hi : IntsAre vs ns) (hl : ns.length ≤ sizeLine) (hr : Room k callerA) (hZ : ∀ p ∈ Z.T, p.1 ∈ cs.map (·.2))
    (F : ∀ base : Heap, Z.K.In base → base.Ns mainGlobals mg → (∀ p ∈ cs, TabB base mg p.1 p.2) → FnG Pg w Z.K mg base k fa fd [x] (spD Z 1 call)) (hbind : ∀ (s : Shared) (u : Value), BindsTo s fd ⟨[u], []⟩ [(x, u)])
    (hlaw : ∃ M, call [.p (scrD ns)] Mem.empty = .ok (.p (.bl true)) M) :
    codeAny (model Pg w) callerA (.call (.ref fa) ⟨[.ref a], []⟩) (fun r s' => r = .ok (.ret (.bool true)) ∧ OldK s₁.heap s'.heap ∧ s'.os = s₁.os ∧ AllBare s'.gens) s₁ := by
  have rv := vals_ints hi
  have lenV := hi.length
  generalize hts : cs.map (·.2) = ts at hZ
  have inT : ∀ p ∈ cs, p.2 ∈ ts := fun p hp => by rw [← hts]; exact List.mem_map.mpr ⟨p, hp, rfl⟩
  have ofT : ∀ b ∈ ts, ∃ p ∈ cs, p.2 = b := fun b h => by
    rw [← hts] at h
    obtain ⟨p, hp, e⟩ := List.mem_map.mp h
    exact ⟨p, hp, e⟩
  have tab : ∀ b ∈ ts, s₁.heap.get? b = some { cls := .none, data := .fields #[] } := fun b h => by
    obtain ⟨p, hp, e⟩ := ofT b h
    rw [← e]
    exact hT p hp
  have aNot : a ∉ ts := fun z => by
    have q := tab a z
    rw [ha] at q
    cases (show Data.seq vs.toArray _ = Data.fields #[] from congrArg Obj.data (Option.some.inj q))
  have core : ∀ H : Hp, (∀ b ∈ ts, H b = some (.tbl #[])) → (∀ b, H b = none ∨ b ∈ ts ∨ ∃ ob xs, H b = some (.frz ob (.lst xs))) → Sq0 Z.K H a (ns.map V.int) → HOk Pg w H s₁.heap → (∀ b, H b ≠ none → b = a ∨ b ∈ ts) → (H a ≠ none → Z.K.lookup a = none) →
      codeAny (model Pg w) callerA (.call (.ref fa) ⟨[.ref a], []⟩) (fun r s' => r = .ok (.ret (.bool true)) ∧ OldK s₁.heap s'.heap ∧ s'.os = s₁.os ∧ AllBare s'.gens) s₁ := by
    intro H hH hO hS hok hA hK
    -- what is neither a list nor an empty table is untracked
    have free_of : ∀ {b : Addr} {o : Obj}, s₁.heap.get? b = some o → (∀ us n, o.data ≠ .seq us n) → o.data ≠ .fields #[] → H b = none := fun {b o} g n1 n2 => by
      cases q : H b with
      | none => rfl
      | some u =>
        rcases hA b (by rw [q]; simp) with e | e
        · rw [e, ha] at g
          cases g
          exact (n1 _ _ rfl).elim
        · rw [tab b e] at g
          cases g
          exact (n2 rfl).elim
    have bas : ∀ {b : Addr} {o : Obj}, s₁.heap.get? b = some o → H b = none → (hidT s₁.heap H).get? b = some o := fun g n => hidT_get g n
    have nsK : ∀ {b : Addr} {m : Str → Option Value}, s₁.heap.Ns b m → (hidT s₁.heap H).Ns b m := fun {b m} ⟨o, es, ep, g, d, r⟩ => ⟨o, es, ep, bas g (free_of g (fun us n z => by rw [d] at z; cases z) (fun z => by rw [d] at z; cases z)), d, r⟩
    have hKb : Z.K.In (hidT s₁.heap H) := fun b o g => bas (KX b o g) (by
      cases q : H b with
      | none => rfl
      | some u =>
        rcases hA b (by rw [q]; simp) with e | e
        · rw [e] at g q
          rw [hK (by rw [q]; simp)] at g
          cases g
        · obtain ⟨p, hp, ep⟩ := ofT b e
          rw [← ep, nT p hp] at g
          cases g)
    obtain ⟨mc, l1, l2⟩ := hlim
    have TB : ∀ p ∈ cs, TabB (hidT s₁.heap H) mg p.1 p.2 := fun p hp => by
      have tp := hT p hp
      refine ⟨?_, ?_, fun z => ?_⟩
      · obtain ⟨o, us, file, tf, flags, tg, inF, text, tt, g, r1, r2, r3, r4, r5, r6, r7, r8, hne⟩ := C p hp
        exact ⟨o, us, file, tf, flags, tg, inF, text, tt, bas g (free_of g (fun us n z => by rw [r2] at z; cases z) (fun z => by rw [r2] at z; cases z; simp at r3)), r1, r2, r3, r4, r5, r6, r7, r8, hne⟩
      · obtain ⟨bm, ob, b1, b2, b3, b4, b5, b6⟩ := hbm
        refine ⟨bm, ob, b1, b2, fun q => ?_, fun q => ?_, bas b3 (free_of b3 (fun us n z => by rw [b6] at z; cases z) (fun z => by rw [b6] at z; cases z)), b4, b5, b6⟩
        · obtain ⟨o, es, ep, g, hd, _⟩ := hns
          rw [q, g] at b3
          cases b3
          rw [hd] at b6
          cases b6
        · rw [q, tp] at b3
          cases b3
          cases b6
      · obtain ⟨o, es, ep, g, hd, _⟩ := hns
        rw [z, tp] at g
        cases g
        cases hd
    have e0 : Env0 Pg w Z.K mg (hidT s₁.heap H) callerA [] s₁ H := ⟨rfl, ⟨hKb, nsK hns, ⟨mb, nsK hb, hbb⟩, mc, nsK l1, l2⟩, fun b o g => of_hidT g, Nat.le_of_eq (hidT_size _ _), trivial, fun b hb => absurd (show b ∈ ([] : List Addr) from hb) (by simp), hok, .of_eq hg⟩
    have r0 : Rl Z (fun _ => none) Mem.empty H := ⟨fun _ _ q => (by cases q), fun _ _ q => (by cases (show (none : Option (List P)) = some _ from q)), fun _ _ _ q => (by cases q), fun _ _ q => (by cases (show (none : Option (List P)) = some _ from q)), fun p hp => .nil (hH _ (hZ p hp))⟩
    have hsp : spD Z 1 call [.ref a] H (fun v _ => v = .bl true) fun _ _ _ => False := by
      obtain ⟨M1, hc⟩ := hlaw
      refine ⟨rfl, fun _ => none, Mem.empty, [.p (scrD ns)], r0, RepDs.cons (show Rep Z H (scrD ns) (.ref a) from ?_) RepDs.nil, ?_⟩
      · unfold scrD Rep
        exact ⟨a, _, rfl, hS, repL_ints ns⟩
      · rw [hc]
        exact fun ρ' v H' _ _ p' => rep_bl p'
    refine codeAny_mono ((F _ hKb (nsK hns) TB).run callerA [] s₁ H ⟨[.ref a], []⟩ [.ref a] [.ref a] _ _ ⟨hr, rfl⟩ e0 (hbind s₁ (.ref a)) (.cons rfl .nil) hsp) fun r s' h => ?_
    cases r with
    | error e => exact (cx_false h).elim
    | ok fl =>
      cases fl with
      | next => exact False.elim h
      | brk => exact False.elim h
      | cont => exact False.elim h
      | ret u =>
        obtain ⟨v, H', os, bare, un, hok', r', q⟩ := h
        obtain rfl : v = .bl true := q
        obtain rfl : u = Value.bool true := r'
        have same : ∀ b o, b ∉ ts → s₁.heap.get? b = some o → s'.heap.get? b = some o := fun b o nb g => by
          rcases hO b with z | z | ⟨ob, xs, z⟩
          · exact un.keep b o g z (by intro z; exact absurd (show b ∈ ([] : List Addr) from z) (by simp)) (by simp)
          · exact absurd z nb
          · obtain ⟨g1, _⟩ := hok b _ z
            obtain ⟨g2, _⟩ := hok' b _ (un.frzs b ob _ z)
            rw [g] at g1
            cases g1
            exact g2
        have more : ∀ b ∈ ts, ∃ ps : Array Value, s'.heap.get? b = some { cls := .none, data := .fields ps } := fun b hb => by
          obtain ⟨m, z⟩ := un.tbls b #[] (hH b hb)
          exact ⟨_, hok' b _ z⟩
        refine ⟨rfl, ⟨fun b o g => ?_, fun b o g => ?_⟩, os, bare⟩
        · by_cases hb : b ∈ ts
          · obtain ⟨ps, hm⟩ := more b hb
            obtain ⟨p, hp, ep⟩ := ofT b hb
            rw [tab b hb] at g
            cases g
            exact .inr (.inl ⟨by rw [← ep]; exact ((C p hp).tab (hT p hp)).isCodeTable, rfl, #[], ps, rfl, by rw [Array.empty_append]; exact hm⟩)
          · exact .inl (same b o hb g)
        · by_cases hb : b ∈ ts
          · exact ⟨_, (more b hb).choose_spec⟩
          · exact ⟨o, same b o hb g⟩
  cases hk : Z.K.lookup a with
  | some o =>
    have e := KX a o hk
    rw [ha] at e
    cases e
    have at_ : ∀ b, startH ts none b = if b ∈ ts then some (.tbl #[]) else none := fun _ => rfl
    refine core (startH ts none) (fun b hb => by rw [at_, if_pos hb]) (fun b => ?_) (.inr ⟨_, vs.toArray, _, hk, rfl, rfl, rfl, by rw [List.size_toArray, lenV]; exact hl, by simpa using rv⟩) (fun b u z => ?_) (fun b z => ?_) fun z => absurd (by rw [at_, if_neg aNot]) z
    · by_cases hb : b ∈ ts
      · exact .inr (.inl hb)
      · exact .inl (by rw [at_, if_neg hb])
    · by_cases hb : b ∈ ts
      · rw [at_, if_pos hb] at z
        cases z
        exact tab b hb
      · rw [at_, if_neg hb] at z
        cases z
    · by_cases hb : b ∈ ts
      · exact .inr hb
      · exact absurd (by rw [at_, if_neg hb]) z
  | none =>
    have at_ : ∀ b, startH ts (some (a, .frz { cls := .type "list", data := .seq vs.toArray } (.lst (ns.map V.int)))) b = if b = a then some (.frz { cls := .type "list", data := .seq vs.toArray } (.lst (ns.map V.int))) else if b ∈ ts then some (.tbl #[]) else none := fun _ => rfl
    refine core (startH ts (some (a, .frz { cls := .type "list", data := .seq vs.toArray } (.lst (ns.map V.int))))) (fun b hb => by rw [at_, if_neg (fun z => aNot (by rw [← z]; exact hb)), if_pos hb]) (fun b => ?_) (.inl ⟨{ cls := .type "list", data := .seq vs.toArray }, by rw [at_, if_pos rfl]⟩) (fun b u z => ?_) (fun b z => ?_) fun _ => hk
    · by_cases hb : b = a
      · exact .inr (.inr ⟨_, _, by rw [at_, if_pos hb]⟩)
      · by_cases h2 : b ∈ ts
        · exact .inr (.inl h2)
        · exact .inl (by rw [at_, if_neg hb, if_neg h2])
    · by_cases hb : b = a
      · rw [at_, if_pos hb] at z
        cases z
        rw [hb]
        exact ⟨ha, by rw [List.length_map]; exact hl, vs, _, rv, ha⟩
      · by_cases h2 : b ∈ ts
        · rw [at_, if_neg hb, if_pos h2] at z
          cases z
          exact tab b h2
        · rw [at_, if_neg hb, if_neg h2] at z
          cases z
    · by_cases hb : b = a
      · exact .inl hb
      · by_cases h2 : b ∈ ts
        · exact .inr h2
        · exact absurd (by rw [at_, if_neg hb, if_neg h2]) z
theorem walk_ofT {l : PySem.W.OpenLaw} {n k : Nat} {q : Program} {loose : List Str} {XP : (Str → Option Value) → Heap → Prop} {YP : World → Heap → Prop} {d : DefRec} {x : Str} {call : List D → Mem → RE}
    (hn : l.most = some n) (hn2 : n ≤ sizeLine) (hdf : d.params.defaults = []) (hr : Room k callerA)
    (F : ∀ (w : World) (mg : Str → Option Value) (fa : Addr) (h : Heap), YP w h → h.Ns mainGlobals mg → mg d.name = some (.ref fa) →
      ∃ (Z : Am) (fd : FuncData) (cs : List (Addr × Addr)), Z.K.In h ∧ (∀ p ∈ cs, h.get? p.2 = some { cls := .none, data := .fields #[] }) ∧ (∀ p ∈ cs, Z.K.lookup p.2 = none) ∧ (∀ p ∈ cs, PySem.W.CodeHd h p.1 p.2) ∧ (∀ p ∈ Z.T, p.1 ∈ cs.map (·.2)) ∧
        (∀ (s : Shared) (u : Value), BindsTo s fd ⟨[u], []⟩ [(x, u)]) ∧ ∀ base : Heap, Z.K.In base → base.Ns mainGlobals mg → (∀ p ∈ cs, TabB base mg p.1 p.2) → FnG l.prog w Z.K mg base k fa fd [x] (spD Z 1 call))
    (hlaw : ∀ ns : List Int, ns.length ≤ n → ∃ M, call [.p (scrD ns)] Mem.empty = .ok (.p (.bl true)) M) :
    PySem.W.WalkO q loose XP YP l.row.toRowW d [] (fun f vs => PySem.call f vs) := by
  refine Att.attach_call hn hdf fun w s₀ s₁ mg mb fa o pm cd doc a vs ns G Y ho hd hcd hmg hobj hints hlen hg => ?_
  obtain ⟨Z, fd, cs, KX, hT, nT, hC, hZ, hb, hF⟩ := F w mg fa _ Y G.T.g hmg
  exact law_callT KX G.T.g G.T.b G.T.builtins G.T.nolimit hg hT nT hC G.T.bmain hobj hints (Nat.le_trans hlen hn2) hr hZ hF hb (hlaw ns hlen)
end FW
/-! FxJ: what the head tells of own exceptions; the Hook. -/
namespace FW
open PySem PySem.Spec PyProof.Rows L2 PySem.W PySem.Calls
abbrev FnI : Type := Option (Str × Str × Arguments × FuncBody × Scope × Addr × List Str × Addr)
/-- the __init__ of the class x -/
def fnI (K : Frag) (x : Str) : FnI := match K.lookup (He.ma K (He.ga K x) "__init__") with
  | some ⟨_, _, .func fd, _⟩ => some (fd.name, fd.qualname, fd.params, fd.body, fd.scope, fd.globals, fd.closure.map (·.1), fd.builtins)
  | _ => none
/-- an own __init__: its class, its words -/
structure InD where
  cls : Str
  qual : Str
  params : Arguments
  body : List Stmt
  scope : Scope
def InD.val (d : InD) : FnI := some ("__init__", d.qual, d.params, .stmts d.body, d.scope, mainGlobals, ["__class__"], builtinsNs)
structure SaysY (fa : List He.Fa) (fn : List He.DefD) (tf : List He.Defn) (ins : List InD) (ex : Frag → Bool) (w : World) (h : Heap) (K : Frag) : Prop where
  x : He.SaysX fa fn [] tf ex w h K
  i : ins.map (fun d => fnI K d.cls) = ins.map InD.val
abbrev AlY : Type := He.AlX × List FnI
def asY (g : Addr → Option Obj) (n : Nat) : List Addr := He.asD g n ++ [cStatics]
def obsY (n : Nat) (fa : List He.Fa) (fn : List He.DefD) (tf : List He.Defn) (ins : List InD) (ex : Frag → Bool) (g : Addr → Option Obj) : AlY :=
  ((He.obsT fa fn [] (He.frT g (asY g n)), ex (He.frT g (asY g n)) && He.tabsB g tf (He.frT g (asY g n))), ins.map fun d => fnI (He.frT g (asY g n)) d.cls)
def valY (fn : List He.DefD) (ins : List InD) (w : World) : AlY := (He.valX fn [] w, ins.map InD.val)
theorem saysY_of {n : Nat} {fa : List He.Fa} {fn : List He.DefD} {tf : List He.Defn} {ins : List InD} {ex : Frag → Bool} {w : World} {h : Heap} (e : obsY n fa fn tf ins ex h.get? = valY fn ins w) : SaysY fa fn tf ins ex w h (He.frT h.get? (asY h.get? n)) := by
  have e1 : He.obsT fa fn [] (He.frT h.get? (asY h.get? n)) = He.valT fn [] w := congrArg (fun z : AlY => z.1.1) e
  have e2 : (ex (He.frT h.get? (asY h.get? n)) && He.tabsB h.get? tf (He.frT h.get? (asY h.get? n))) = true := congrArg (fun z : AlY => z.1.2) e
  have e3 : ins.map (fun d => fnI (He.frT h.get? (asY h.get? n)) d.cls) = ins.map InD.val := congrArg (fun z : AlY => z.2) e
  obtain ⟨h1, h2⟩ := He.ba e2
  have key : ∀ p ∈ tf, codeHdIn (He.frT h.get? (asY h.get? n)) (He.cT (He.frT h.get? (asY h.get? n)) p).1 (He.cT (He.frT h.get? (asY h.get? n)) p).2 = true ∧ ∃ o, h.get? (He.cT (He.frT h.get? (asY h.get? n)) p).2 = some o ∧ He.emptyTab o = true := fun p hp => by
    obtain ⟨h3, h4⟩ := He.ba (List.all_eq_true.mp h2 p hp)
    refine ⟨h3, ?_⟩
    cases q : h.get? (He.cT (He.frT h.get? (asY h.get? n)) p).2 with
    | none => rw [q] at h4; cases h4
    | some o =>
      rw [q] at h4
      exact ⟨o, rfl, h4⟩
  refine ⟨⟨e1, h1, fun p hp => (key p hp).1, fun p hp => ?_, fun p hp => ?_⟩, e3⟩
  · obtain ⟨_, o, q, z⟩ := key p hp
    exact He.frT_none q z
  · obtain ⟨_, o, q, z⟩ := key p hp
    rw [q, He.emptyTab_eq z]
def hookY (n : Nat) (fa : List He.Fa) (fn : List He.DefD) (tf : List He.Defn) (ins : List InD) (ex : Frag → Bool) : Hook where
  α := AlY
  obs := fun s => obsY n fa fn tf ins ex s.heap.get?
  val := fun w => valY fn ins w
  says := fun w h => ∃ K : Frag, K.In h ∧ SaysY fa fn tf ins ex w h K
  of := fun _ _ e => ⟨_, He.frT_in, saysY_of e⟩
  keeps := fun _ _ _ ⟨K, hK, c⟩ k => ⟨K, Frag.In.keeps hK k, ⟨⟨c.x.t, c.x.more, c.x.hd, c.x.out, fun p hp => k _ _ (c.x.empty p hp)⟩, c.i⟩⟩
theorem obsY_eq {n : Nat} {fa : List He.Fa} {fn : List He.DefD} {tf : List He.Defn} {ins : List InD} {ex : Frag → Bool} {g : Addr → Option Obj} {s : Shared} (h : ∀ a, g a = s.heap.get? a) : obsY n fa fn tf ins ex g = (hookY n fa fn tf ins ex).obs s := by
  have e : g = s.heap.get? := funext h
  rw [e] <;> rfl
/-! ### an own exception over a built-in one, by a Bool -/
/-- a built-in base -/
structure ExB (B newId initId : String) (bm : List Value) : Prop where
  f : ExcBaseFacts B newId initId bm
  k : KxsFacts B initId
  s : StoreFacts B bm "object.__setattr__" "object"
def supB (K : Frag) (file : Str) (x : Str) (qual : Str) (B newId initId : String) (bm : List Value) (f : Str) : Bool :=
  excInitIn K (He.ga K x) bm newId && (excOver K (He.ga K x) bm && (decide (ks_superIn K (He.ga K x) (He.ga K x) "__init__" = some (some (.builtin initId))) && (decide (subIn K (.ref (He.ga K x)) (.type B) = some true) && (keepIn K (.ref (He.ga K x)) &&
  (decide (findIn K (.ref (He.ga K x)) "__setattr__" = some (some (.builtin "object.__setattr__"))) && (decide (takerIn K (He.ga K x) f = some none) && (hasDictIn K (He.ga K x) && (decide (subIn K (.ref (He.ga K x)) (.type "BaseException") = some true) && (decide (typeIn K (.ref (He.ga K x)) = some (.type "type")) &&
  ((clsIn K (He.ga K x)).isSome && (decide (mroIn K (He.ga K x) (.ref (He.ga K x)) = some true) && (decide (nsIn K cStatics "thirdparty.any" = some none) && (decide (findIn K (.ref (He.ga K x)) "__init__" = some (some (.ref (He.ma K (He.ga K x) "__init__")))) && (match K.lookup (He.ma K (He.ga K x) "__init__") with
    | some ⟨.type t, _, .func fd, _⟩ => decide (t = "function") && ((match fd.defaults with
      | .none => true
      | _ => false) && (codeIn K fd.code qual && ((match fd.code with
      | .ref c => (match K.lookup c with
        | some ⟨_, _, .fields vs, _⟩ => (match (vs[2]? : Option Value) with
          | some (.str z _) => file == z
          | _ => false)
        | _ => false)
      | _ => false) && (match fd.closure with
      | [(_, c)] => (match K.lookup c with
        | some ⟨_, _, .cell (some (.ref C)), _⟩ => decide (C = He.ga K x)
        | _ => false)
      | _ => false))))
    | _ => false))))))))))))))
theorem supC_of {P : Program} {K : Frag} {mg : Str → Option Value} {x par f : Str} {d : InD} {B newId initId : String} {bm : List Value} {arg : Expr} {a1 a2 : Arg} {p0 p1 p2 p3 p4 p5 p6 p7 p8 : Pos} (FB : ExB B newId initId bm) (c : supB K P.main.file x d.qual B newId initId bm f = true) (e : fnI K d.cls = d.val) (hx : d.cls = x)
    (hbody : d.body = [.Expr (.Call (.Attribute (.Call (.Name "super" p0) [] [] p1) "__init__" p2) [arg] [] p3) p4, .Assign [.Attribute (.Name "self" p5) f p6] (.Name par p7) p8]) (hpar : d.params = ⟨[], [a1, a2], none, [], [], none, []⟩) (h1 : a1.arg = "self") (h2 : a2.arg = par) (hne : a1.arg ≠ a2.arg)
    (n1 : d.scope.names.lookup ("self" : Str) = some NameKind.local) (n2 : d.scope.names.lookup par = some NameKind.local) (n3 : d.scope.names.lookup ("super" : Str) = some NameKind.globalImplicit) (n4 : d.scope.names.lookup ("__class__" : Str) = some NameKind.free) (n5 : ∀ y ∈ d.scope.names, y.2 ≠ NameKind.cell)
    (n6 : d.scope.kind = .function) (n7 : d.scope.isCoroutine = false) (n8 : d.scope.isGenerator = false) (n9 : (par == ("__debug__" : Str)) = false) (hl : (p2.endLine == p3.line) = true)
    (hb : ∀ (kV doc pm : Value) (an : Option Addr) (cdv ct : Value) (cc : Addr) (a b : Value), bindArgs (ksFn "__init__" d.qual d.params d.body d.scope .none kV doc pm an cdv ct cc) ⟨[a, b], []⟩ = (pure [(("self" : Str), a), (par, b)] : Sem (List (Str × Value))))
    (sup : mg "super" = none) (top : (P.main.scope.names.lookup ("super" : Str)).isSome = false) : SupC P K mg (He.ga K x) arg par f := by
  subst hx
  unfold supB at c
  obtain ⟨c1, c⟩ := He.ba c
  obtain ⟨c2, c⟩ := He.ba c
  obtain ⟨c3, c⟩ := He.ba c
  obtain ⟨c4, c⟩ := He.ba c
  obtain ⟨c5, c⟩ := He.ba c
  obtain ⟨c6, c⟩ := He.ba c
  obtain ⟨c7, c⟩ := He.ba c
  obtain ⟨c8, c⟩ := He.ba c
  obtain ⟨c9, c⟩ := He.ba c
  obtain ⟨c10, c⟩ := He.ba c
  obtain ⟨c11, c⟩ := He.ba c
  obtain ⟨c12, c⟩ := He.ba c
  obtain ⟨c13, c⟩ := He.ba c
  obtain ⟨c14, c⟩ := He.ba c
  have fi := of_decide_eq_true c14
  refine ⟨⟨B, _, _, bm, FB.f, FB.k, FB.s, c1, c2, of_decide_eq_true c3, of_decide_eq_true c4⟩, c5, of_decide_eq_true c6, of_decide_eq_true c7, c8, of_decide_eq_true c9, of_decide_eq_true c10, Option.isSome_iff_exists.mp c11, of_decide_eq_true c12, of_decide_eq_true c13, sup, top, ?_⟩
  unfold fnI at e
  cases q : K.lookup (He.ma K (He.ga K d.cls) "__init__") with
  | none =>
    rw [q] at c
    cases c
  | some o =>
    obtain ⟨oc, od, dt, osl⟩ := o
    rw [q] at c e
    cases dt with
    | func fd =>
      cases oc with
      | type t =>
        obtain ⟨k1, c⟩ := He.ba c
        obtain ⟨k0, c⟩ := He.ba c
        obtain ⟨k2, c⟩ := He.ba c
        obtain ⟨k3, k4⟩ := He.ba c
        obtain ⟨m1, m2, m3, m4, m5, m6, m7, m8, m9, m10, m11, m12, m13, m14, m15⟩ := fd
        have e2 : (some (m1, m2, m3, m4, m5, m6, m7.map (·.1), m15) : FnI) = (some (("__init__" : Str), d.qual, d.params, .stmts d.body, d.scope, mainGlobals, [("__class__" : Str)], builtinsNs) : FnI) := e
        simp only [Option.some.injEq, Prod.mk.injEq] at e2
        obtain ⟨z1, z2, z3, z4, z5, z6, z7, z8⟩ := e2
        subst z1 z2 z3 z4 z5 z6 z8
        obtain ⟨cc, hcc⟩ : ∃ cc, m7 = [(("__class__" : Str), cc)] := by
          cases m7 with
          | nil => cases z7
          | cons a r =>
            cases r with
            | nil =>
              obtain ⟨y, cc⟩ := a
              simp at z7
              subst z7
              exact ⟨cc, rfl⟩
            | cons b r => simp at z7
        subst hcc
        have dn : m8 = .none := by
          revert k0
          cases m8 <;> first | exact fun _ => rfl | exact fun z => by cases z
        subst dn
        have ht : t = "function" := of_decide_eq_true k1
        subst ht
        obtain ⟨cda, hcda⟩ := He.codeIn_ref k2
        have hcda : m13 = .ref cda := hcda
        subst hcda
        have k3 : (match K.lookup cda with
          | some ⟨_, _, .fields vs, _⟩ => (match (vs[2]? : Option Value) with
            | some (.str z _) => P.main.file == z
            | _ => false)
          | _ => false) = true := k3
        have k4 : (match K.lookup cc with
          | some ⟨_, _, .cell (some (.ref C)), _⟩ => decide (C = He.ga K d.cls)
          | _ => false) = true := k4
        split at k3
        · rename_i ccl cdd vs ccs lcd
          split at k3
          · rename_i file tf hvs
            split at k4
            · rename_i cl cld C csl lcc
              have hC : C = He.ga K d.cls := of_decide_eq_true k4
              subst hC
              refine ⟨He.ma K (He.ga K d.cls) "__init__", cc, cda, .type "function", .none, m9, m10, m11, m14, ccl, cl, od, m12, cdd, cld, osl, ccs, csl, d.qual, d.params, d.scope, vs, file, tf, p0, p1, p2, p3, p4, p5, p6, p7, p8, a1, a2, fi, rfl, ?_, k2, lcd, hvs, k3, lcc, hpar, h1, h2, hne, n1, n2, n3, n4, n5, n6, n7, n8, n9, hl, ?_⟩
              · rw [q, ← hbody]
              · rw [← hbody]
                exact hb _ _ _ _ _ _ _
            · cases k4
          · cases k3
        · cases k3
      | _ => cases c
    | _ => exact absurd c (by cases oc <;> simp)
end FW
/-! FxK: ways into a statement; clauses and errors as the printer uses them. -/
namespace FW
open PySem PySem.Spec PyProof.Rows L2 LamX
def kidE (n : Nat) : Expr → Expr
  | .Call f as _ _ => match n with | 0 => f | k + 1 => as.getD k f
  | .List es p => es.getD n (.Name "" p)
  | .Tuple es _ p => es.getD n (.Name "" p)
  | .BinOp a _ b _ => match n with | 0 => a | _ => b
  | .Compare a _ bs _ => match n with | 0 => a | k + 1 => bs.getD k a
  | .BoolOp _ es p => es.getD n (.Name "" p)
  | .UnaryOp _ e _ => e
  | .Subscript a b _ => match n with | 0 => a | _ => b
  | .Attribute e _ _ => e
  | .IfExp t a b _ => match n with | 0 => t | 1 => a | _ => b
  | .ListComp e gs _ _ => match n with | 0 => e | k + 1 => (gs.getD k ⟨e, e, [], 0⟩).iter
  | .Lambda _ b _ _ => b
  | .Starred e _ => e
  | e => e
def valS : Stmt → Expr
  | .Assign _ e _ => e
  | .Expr e _ => e
  | .Return (some e) _ => e
  | .If e _ _ _ => e
  | .While e _ _ _ => e
  | .For _ e _ _ _ => e
  | .AugAssign _ _ e _ => e
  | .Raise (some e) _ _ => e
  | _ => .Name "" ⟨0, 0, 0, 0⟩
def inS : Stmt → List Stmt
  | .If _ b _ _ => b
  | .While _ b _ _ => b
  | .For _ _ b _ _ => b
  | .Try b _ _ _ _ => b
  | .ClassDef _ _ _ b _ _ _ _ _ _ _ => b
  | _ => []
def elS : Stmt → List Stmt
  | .If _ _ b _ => b
  | _ => []
def atS (l : List Stmt) (n : Nat) : Stmt := l.getD n (.Pass ⟨0, 0, 0, 0⟩)
def lamOf : Expr → LamD
  | .Lambda a b s _ => (a, b, s)
  | e => (⟨[], [], none, [], [], none, []⟩, e, ⟨.function, [], false, false, []⟩)
/-- a class that clauses name: which classes stand under it -/
structure HdF (mg : Str → Option Value) (Z : Bm) (x : Str) (fm : Nat → Bool) : Prop where
  ex : ∃ CS, mg x = some (.ref CS) ∧ ∀ c A, Z.ca c = some A → PySem.W.exmOne Z.K (.ref A) (.ref CS) = some (fm c)
/-- the classes under it keep f -/
structure XfF (Z : Bm) (fm : Nat → Bool) (f : Str) : Prop where
  ex : ∀ c A, fm c = true → Z.ca c = some A → Z.fl c = [f] ∧ XfC Z.K A ∧ PySem.W.findIn Z.K (.ref A) f = some none
section
variable {X : Cx} {Z : Am} {rt : Rt} {W : WX} {n : Nat}
theorem hd_bare {x : Str} {fm : Nat → Bool} {su : Option P → SS} {b : Stmt} {bs : List Stmt} {np q : Pos} {hs : List ExceptHandler} {l : List HdD} (C : Ct X Z W n) (F : HdF X.mg Z.toBm x fm) (hg : Gl X x) (nm : NmOk x)
    (hsu : ∀ (a : Addr) (pn : List (Addr × Obj)), Cs (X.suite a pn) Z → PSs (X.suite a pn) (b :: bs) (tS Z rt noW (su none))) (r : HdsD X Z rt hs l) : HdsD X Z rt (.ExceptHandler (some (.Name x np)) none (b :: bs) q :: hs) ((fm, none, su) :: l) := by
  obtain ⟨CS, h1, h2⟩ := F.ex
  have hK := C.K
  exact .bare ⟨hg, nm.d, .inl h1⟩ (fun c A h => by rw [hK]; exact h2 c A h) (fun a oe pn => hsu a _ (C.su a _)) r
theorem hd_nam {x nn f : Str} {i : Nat} {fm : Nat → Bool} {su : Option P → SS} {b : Stmt} {bs : List Stmt} {np q : Pos} {hs : List ExceptHandler} {l : List HdD} (C : Ct X Z W n) (F : HdF X.mg Z.toBm x fm) (G : XfF Z.toBm fm f) (hg : Gl X x) (nm : NmOk x) (hi : X.N[i]? = some nn) (hl : X.env.scope.names.lookup nn = some .local) (nn2 : NmOk nn) (hno : ∀ u ρ H, ¬ Z.lam 1000 u ρ H)
    (hsu : ∀ (a : Addr) (pn : List (Addr × Obj)) (Z' : Am) (p : P), Cs (X.suite a pn) Z' → (∀ p1 p2, PE (X.suite a pn) (.Attribute (.Name nn p1) f p2) (tE Z' rt noW (xfE i (some p)))) → PSs (X.suite a pn) (b :: bs) (tS Z' rt noW (su (some p)))) (r : HdsD X Z rt hs l) :
    HdsD X Z rt (.ExceptHandler (some (.Name x np)) (some nn) (b :: bs) q :: hs) ((fm, some i, su) :: l) := by
  obtain ⟨CS, h1, h2⟩ := F.ex
  have hK := C.K
  exact .nam ⟨hg, nm.d, .inl h1⟩ (fun c A h => by rw [hK]; exact h2 c A h) hi hl G.ex (fun a oe cls dx pn p hz hf => hsu a _ _ p ((C.su a _).zs a cls dx p f) fun p1 p2 => pv_xf hK hz hf hi (.inl hl) nn2 hno) r
/-! ### by Bools -/
def raB (K : PySem.W.Frag) (x : Str) (newId : String) (bm : List Value) : Bool := PySem.W.excIn K (He.ga K x) bm newId && (PySem.W.keepIn K (.ref (He.ga K x)) && (decide (PySem.W.subIn K (.ref (He.ga K x)) (.type "BaseException") = some true) && decide (PySem.W.typeIn K (.ref (He.ga K x)) = some (.type "type"))))
theorem raM_of {Pg : Program} {K : PySem.W.Frag} {mg : Str → Option Value} {Z : Am} {x : Str} {c : Nat} {B newId initId : String} {bm : List Value} (h : raB K x newId bm = true) (FB : ExcBaseFacts B newId initId bm) (hc : Z.ca c = some (He.ga K x)) (hm : mg x = some (.ref (He.ga K x))) : RaM Pg K mg Z x c := by
  unfold raB at h
  obtain ⟨c1, h⟩ := He.ba h
  obtain ⟨c2, h⟩ := He.ba h
  obtain ⟨c3, c4⟩ := He.ba h
  exact ⟨_, B, _, _, bm, hc, hm, FB, c1, c2, of_decide_eq_true c3, of_decide_eq_true c4⟩
def xcB (K : PySem.W.Frag) (x f : Str) : Bool := xfB K (He.ga K x) && decide (PySem.W.findIn K (.ref (He.ga K x)) f = some none)
theorem xcB_ok {K : PySem.W.Frag} {x f : Str} (h : xcB K x f = true) : XfC K (He.ga K x) ∧ PySem.W.findIn K (.ref (He.ga K x)) f = some none := by
  obtain ⟨c1, c2⟩ := He.ba h
  exact ⟨xfB_ok c1, of_decide_eq_true c2⟩
/-- what such an __init__ says: a plain text; f'{x!r} text' -/
theorem argK_const {Pg : Program} {w : World} {t par : Str} {j : Nat} {pos : Pos} : ArgK Pg w (.Constant (.str t) j pos) par false := ⟨fun _ _ _ => arg_const, fun h => (by cases h)⟩
theorem argK_repr {Pg : Program} {w : World} {t par : Str} {j : Nat} {pos p1 p2 p3 : Pos} (hdb : (par == ("__debug__" : Str)) = false) (ht : t.length ≤ 1000) : ArgK Pg w (.JoinedStr [.FormattedValue (.Name par p1) 114 none p2, .Constant (.str t) j p3] pos) par true :=
  ⟨fun h => (by cases h), fun _ h u n hn hr => joined2 (part_repr (by omega) hdb hr) (part_const ht) (by omega)⟩
end
end FW
/-! FxL: tables; the built-in bases. -/
namespace FW
open PySem PySem.Spec PyProof.Rows L2 LamX
theorem Ct.tr {X : Cx} {Z : Am} {W W' : WX} {n : Nat} {pn : List (Addr × Obj)} {xe : Value → Shared → Prop} (C : Ct X Z W n) (tk : Takes (X.tr pn xe) W') : Ct (X.tr pn xe) Z W' n := ⟨C.K, C.calm, C.nd, C.room, tk⟩
def lamQ (p : He.Defn) : Str := p.1 ++ ".<locals>." ++ "<lambda>"
/-- the tables of the defs that make lambdas -/
def tabL (K : PySem.W.Frag) (tf : List He.Defn) : List (Addr × Str) := tf.map fun p => ((He.cT K p).2, lamQ p)
theorem tab_mem {K : PySem.W.Frag} {tf : List He.Defn} {p : He.Defn} (hp : p ∈ tf) : ((He.cT K p).2, lamQ p) ∈ tabL K tf := List.mem_map.mpr ⟨p, hp, rfl⟩
def nodB : List Addr → Bool
  | [] => true
  | a :: r => !(r.contains a) && nodB r
theorem tab_uni {K : PySem.W.Frag} : ∀ {tf : List He.Defn} {p : He.Defn}, nodB (tf.map fun p => (He.cT K p).2) = true → p ∈ tf → ∀ q ∈ tabL K tf, q.1 = (He.cT K p).2 → q.2 = lamQ p
  | [], p, _, hp, _, _, _ => by cases hp
  | a :: r, p, h, hp, q, hq, e => by
    obtain ⟨h1, h2⟩ := He.ba (show (!((r.map fun p => (He.cT K p).2).contains (He.cT K a).2) && nodB (r.map fun p => (He.cT K p).2)) = true from h)
    have far : ∀ b ∈ r, (He.cT K b).2 ≠ (He.cT K a).2 := fun b hb z => by
      have : ((r.map fun p => (He.cT K p).2).contains (He.cT K a).2) = true := List.contains_iff_mem.mpr (List.mem_map.mpr ⟨b, hb, z⟩)
      rw [this] at h1
      cases h1
    obtain ⟨b, hb, eb⟩ := List.mem_map.mp (show q ∈ (a :: r).map fun p => ((He.cT K p).2, lamQ p) from hq)
    subst eb
    rcases List.mem_cons.mp hp with p1 | p1
    · rcases List.mem_cons.mp hb with b1 | b1
      · rw [b1, p1]
      · rw [p1] at e
        exact absurd e (far b b1)
    · rcases List.mem_cons.mp hb with b1 | b1
      · rw [b1] at e
        exact absurd e.symm (far p p1)
      · exact tab_uni h2 p1 _ (List.mem_map.mpr ⟨b, b1, rfl⟩) e
theorem cs_all {K : PySem.W.Frag} {tf : List He.Defn} {q : Addr × Addr → Prop} (h : ∀ p ∈ tf, q (He.cT K p)) : ∀ p ∈ tf.map (He.cT K), q p := fun p hp => by
  obtain ⟨a, ha, e⟩ := List.mem_map.mp hp
  rw [← e]
  exact h a ha
theorem tabL_in {K : PySem.W.Frag} {tf : List He.Defn} : ∀ p ∈ tabL K tf, p.1 ∈ (tf.map (He.cT K)).map (·.2) := fun p hp => by
  obtain ⟨a, ha, e⟩ := List.mem_map.mp hp
  rw [← e, List.map_map]
  exact List.mem_map.mpr ⟨a, ha, rfl⟩
def rm : Nat → Nat
  | 0 => 0
  | n + 1 => rm n + 3 + 1
end FW
/-! FxM: displays of dicts that nobody writes. -/
namespace FW
open PySem PySem.Spec PyProof.Rows L2
section
variable {Z : Am} {rt : Rt} {W : WX} {X : Cx} {ρ ρ0 ρ' : Rho} {M : Mem} {H H0 H' : Hp} {δ : Slots} {σ : L2.St} {Q Q' : VK}
/-- a new dict at p is locked; G is what H became with it -/
theorem dic_lock {ks : List P} {vs : List P} {kv : List (Key × V)} {G : Hp} {p : Addr} {o : Obj} (hp : H p = none) (r : Rl Z ρ M H) (ek : ks = kv.map fun q => keyP q.1) (hv : RepL Z H vs (kv.map (·.2))) :
    Rl Z ρ M (upd H p (.frz o (.dK kv))) ∧ Ext ρ H ρ (upd H p (.frz o (.dK kv))) ∧ Rep Z (upd H p (.frz o (.dK kv))) (.dic ks vs) (.ref p) := by
  obtain ⟨r2, e2⟩ := r.laid (o := .frz o (.dK kv)) hp
  exact ⟨r2, e2, by unfold Rep; exact ⟨p, o, kv, rfl, upd_same, ek, hv.ext e2⟩⟩
theorem pv_dic0 {pos : Pos} : PE X (.Dict [] [] pos) (tE Z rt W (cst (.dic [] []))) := ⟨fun pins s σ H Q I ⟨ρ, M, δ, r, sl, q⟩ => by
  refine thn (pe_dnewK.run pins s σ H (fun v H' => ∃ p, H p = none ∧ v = .ref p ∧ H' = upd H p (.dK [])) I fun p hp => ⟨p, hp, rfl, rfl⟩) fun u s1 ⟨v, H1, I1, r1, p, hp, ev, eH⟩ => ?_
  subst ev eH
  obtain ⟨o, I2⟩ := I1.lock (d := p) upd_same True.intro
  rw [upd_upd] at I2
  obtain ⟨r3, e3, p3⟩ := dic_lock (Z := Z) (ks := []) (vs := []) (kv := []) (G := H) (o := o) hp r rfl RepL.nil
  exact ⟨_, _, I2, r1, q ρ _ _ e3 r3 p3⟩⟩
/-- {k: v} of constants -/
theorem pv_dic1 {kx ve : Expr} {k : Key} {y : V} {d : P} {pos : Pos} (hk : PE X kx (tC (kV k))) (hv : PE X ve (tC y)) (hr : ∀ H, Rep Z H d y) : PE X (.Dict [some kx] [ve] pos) (tE Z rt W (cst (.dic [keyP k] [d]))) := ⟨fun pins s σ H Q I ⟨ρ, M, δ, r, sl, q⟩ => by
  refine thn ((pe_disp (pps_cons hk hv pps_nil) rfl rfl (by simp) (by show 1 ≤ 15; decide)).run pins s σ H (fun v H' => ∃ p, H p = none ∧ v = .ref p ∧ H' = upd H p (.dK [(k, y)])) I fun p hp => ?_) fun u s1 ⟨v, H1, I1, r1, p, hp, ev, eH⟩ => ?_
  · exact ⟨upd_same, [(k, y)], rfl, (by show 1 ≤ 15; decide), p, hp, rfl, upd_upd⟩
  · subst ev eH
    obtain ⟨o, I2⟩ := I1.lock (d := p) upd_same True.intro
    rw [upd_upd] at I2
    obtain ⟨r3, e3, p3⟩ := dic_lock (Z := Z) (ks := [keyP k]) (vs := [d]) (kv := [(k, y)]) (G := H) (o := o) hp r rfl (RepL.cons (hr H) RepL.nil)
    exact ⟨_, _, I2, r1, q ρ _ _ e3 r3 p3⟩⟩
end
end FW
namespace Lw
open PySem PySem.Spec PyProof.Rows L2 FW LamX
def top (i : Nat) : Stmt := PySem.Challenge.pw_nextties_k22_errors_and_judges_of_number.main.body.getD i (.Pass ⟨0, 0, 0, 0⟩)
abbrev n_is_integer : Nat := 13
abbrev n_is_name : Nat := 14
abbrev n_common_divisor : Nat := 15
abbrev n_is_number : Nat := 16
abbrev n_reduced : Nat := 17
abbrev n_number : Nat := 18
abbrev n_require_number : Nat := 19
abbrev n_require_count : Nat := 20
abbrev n_added : Nat := 21
abbrev n_multiplied : Nat := 22
abbrev n_opposite : Nat := 23
abbrev n_divided : Nat := 24
abbrev n_sum_of : Nat := 25
abbrev n_plus : Nat := 26
abbrev n_minus : Nat := 27
abbrev n_times : Nat := 28
abbrev n_over : Nat := 29
abbrev n_compared : Nat := 30
abbrev n_total : Nat := 31
abbrev n_power : Nat := 32
abbrev n__law_dice : Nat := 34
abbrev n__law_roll : Nat := 35
abbrev n__law_pick : Nat := 36
abbrev n__law_fr : Nat := 37
abbrev n__law_is_number : Nat := 38
abbrev n__law_word : Nat := 39
abbrev n__law_is_name : Nat := 40
abbrev n__law_some : Nat := 41
abbrev n__law_right : Nat := 42
abbrev n_law : Nat := 43
theorem Nm_InvalidCount : NmOk "InvalidCount" := nmOk_of (by decide +kernel)
theorem Nm_InvalidFraction : NmOk "InvalidFraction" := nmOk_of (by decide +kernel)
theorem Nm_LETTERS : NmOk "LETTERS" := nmOk_of (by decide +kernel)
theorem Nm_MAX_LETTERS : NmOk "MAX_LETTERS" := nmOk_of (by decide +kernel)
theorem Nm_MOST_PASSED : NmOk "MOST_PASSED" := nmOk_of (by decide +kernel)
theorem Nm_NOUGHT : NmOk "NOUGHT" := nmOk_of (by decide +kernel)
theorem Nm_ONE : NmOk "ONE" := nmOk_of (by decide +kernel)
theorem Nm_Refused : NmOk "Refused" := nmOk_of (by decide +kernel)
theorem Nm_SIGNS : NmOk "SIGNS" := nmOk_of (by decide +kernel)
theorem Nm__law_dice : NmOk "_law_dice" := nmOk_of (by decide +kernel)
theorem Nm__law_fr : NmOk "_law_fr" := nmOk_of (by decide +kernel)
theorem Nm__law_is_name : NmOk "_law_is_name" := nmOk_of (by decide +kernel)
theorem Nm__law_is_number : NmOk "_law_is_number" := nmOk_of (by decide +kernel)
theorem Nm__law_pick : NmOk "_law_pick" := nmOk_of (by decide +kernel)
theorem Nm__law_right : NmOk "_law_right" := nmOk_of (by decide +kernel)
theorem Nm__law_roll : NmOk "_law_roll" := nmOk_of (by decide +kernel)
theorem Nm__law_some : NmOk "_law_some" := nmOk_of (by decide +kernel)
theorem Nm__law_word : NmOk "_law_word" := nmOk_of (by decide +kernel)
theorem Nm_abs : NmOk "abs" := nmOk_of (by decide +kernel)
theorem Nm_added : NmOk "added" := nmOk_of (by decide +kernel)
theorem Nm_all : NmOk "all" := nmOk_of (by decide +kernel)
theorem Nm_bad : NmOk "bad" := nmOk_of (by decide +kernel)
theorem Nm_bool : NmOk "bool" := nmOk_of (by decide +kernel)
theorem Nm_bottom : NmOk "bottom" := nmOk_of (by decide +kernel)
theorem Nm_cell : NmOk "cell" := nmOk_of (by decide +kernel)
theorem Nm_common_divisor : NmOk "common_divisor" := nmOk_of (by decide +kernel)
theorem Nm_compared : NmOk "compared" := nmOk_of (by decide +kernel)
theorem Nm_dice : NmOk "dice" := nmOk_of (by decide +kernel)
theorem Nm_divided : NmOk "divided" := nmOk_of (by decide +kernel)
theorem Nm_divisor : NmOk "divisor" := nmOk_of (by decide +kernel)
theorem Nm_due : NmOk "due" := nmOk_of (by decide +kernel)
theorem Nm_error : NmOk "error" := nmOk_of (by decide +kernel)
theorem Nm_found : NmOk "found" := nmOk_of (by decide +kernel)
theorem Nm_great : NmOk "great" := nmOk_of (by decide +kernel)
theorem Nm_int : NmOk "int" := nmOk_of (by decide +kernel)
theorem Nm_is_bottom : NmOk "is_bottom" := nmOk_of (by decide +kernel)
theorem Nm_is_integer : NmOk "is_integer" := nmOk_of (by decide +kernel)
theorem Nm_is_name : NmOk "is_name" := nmOk_of (by decide +kernel)
theorem Nm_is_number : NmOk "is_number" := nmOk_of (by decide +kernel)
theorem Nm_is_top : NmOk "is_top" := nmOk_of (by decide +kernel)
theorem Nm_is_whole : NmOk "is_whole" := nmOk_of (by decide +kernel)
theorem Nm_items : NmOk "items" := nmOk_of (by decide +kernel)
theorem Nm_least : NmOk "least" := nmOk_of (by decide +kernel)
theorem Nm_left : NmOk "left" := nmOk_of (by decide +kernel)
theorem Nm_len : NmOk "len" := nmOk_of (by decide +kernel)
theorem Nm_many : NmOk "many" := nmOk_of (by decide +kernel)
theorem Nm_max : NmOk "max" := nmOk_of (by decide +kernel)
theorem Nm_min : NmOk "min" := nmOk_of (by decide +kernel)
theorem Nm_minus : NmOk "minus" := nmOk_of (by decide +kernel)
theorem Nm_most : NmOk "most" := nmOk_of (by decide +kernel)
theorem Nm_multiplied : NmOk "multiplied" := nmOk_of (by decide +kernel)
theorem Nm_number : NmOk "number" := nmOk_of (by decide +kernel)
theorem Nm_numbers : NmOk "numbers" := nmOk_of (by decide +kernel)
theorem Nm_one : NmOk "one" := nmOk_of (by decide +kernel)
theorem Nm_opposite : NmOk "opposite" := nmOk_of (by decide +kernel)
theorem Nm_other : NmOk "other" := nmOk_of (by decide +kernel)
theorem Nm_over : NmOk "over" := nmOk_of (by decide +kernel)
theorem Nm_plain : NmOk "plain" := nmOk_of (by decide +kernel)
theorem Nm_plus : NmOk "plus" := nmOk_of (by decide +kernel)
theorem Nm_power : NmOk "power" := nmOk_of (by decide +kernel)
theorem Nm_reduced : NmOk "reduced" := nmOk_of (by decide +kernel)
theorem Nm_repr : NmOk "repr" := nmOk_of (by decide +kernel)
theorem Nm_require_count : NmOk "require_count" := nmOk_of (by decide +kernel)
theorem Nm_require_number : NmOk "require_number" := nmOk_of (by decide +kernel)
theorem Nm_right : NmOk "right" := nmOk_of (by decide +kernel)
theorem Nm_script : NmOk "script" := nmOk_of (by decide +kernel)
theorem Nm_seed : NmOk "seed" := nmOk_of (by decide +kernel)
theorem Nm_sign : NmOk "sign" := nmOk_of (by decide +kernel)
theorem Nm_some : NmOk "some" := nmOk_of (by decide +kernel)
theorem Nm_spot : NmOk "spot" := nmOk_of (by decide +kernel)
theorem Nm_str : NmOk "str" := nmOk_of (by decide +kernel)
theorem Nm_sum_of : NmOk "sum_of" := nmOk_of (by decide +kernel)
theorem Nm_times : NmOk "times" := nmOk_of (by decide +kernel)
theorem Nm_told : NmOk "told" := nmOk_of (by decide +kernel)
theorem Nm_top : NmOk "top" := nmOk_of (by decide +kernel)
theorem Nm_total : NmOk "total" := nmOk_of (by decide +kernel)
theorem Nm_tuple : NmOk "tuple" := nmOk_of (by decide +kernel)
theorem Nm_two : NmOk "two" := nmOk_of (by decide +kernel)
theorem Nm_value : NmOk "value" := nmOk_of (by decide +kernel)
theorem Nm_wrong : NmOk "wrong" := nmOk_of (by decide +kernel)
def fm_Refused : Nat → Bool := fun c => match c with
  | 4 => true
  | _ => false
def fm_InvalidCount : Nat → Bool := fun c => match c with
  | 3 => true
  | _ => false
def fm_InvalidFraction : Nat → Bool := fun c => match c with
  | 2 => true
  | _ => false
structure Facts0 (Pg : Program) (w : World) (mg : Str → Option Value) (base : Heap) (Z : Am) (rt : Rt) (n : Nat) : Prop where
  no : ∀ u ρ H, ¬ Z.lam 1000 u ρ H
  b_isinstance : mg "isinstance" = none
  b_int : mg "int" = none
  b_bool : mg "bool" = none
  b_str : mg "str" = none
  b_len : mg "len" = none
  b_all : mg "all" = none
  b_abs : mg "abs" = none
  b_tuple : mg "tuple" = none
  b_range : mg "range" = none
  b_max : mg "max" = none
  b_repr : mg "repr" = none
  b_min : mg "min" = none
  g_MAX_LETTERS : GlV mg Z "MAX_LETTERS" (.int 12)
  g_LETTERS : GlV mg Z "LETTERS" (.str [97, 98, 99, 100, 101, 102, 103, 104, 105, 106, 107, 108, 109, 110, 111, 112, 113, 114, 115, 116, 117, 118, 119, 120, 121, 122])
  g_SIGNS : GlV mg Z "SIGNS" (.str [97, 98, 99, 100, 101, 102, 103, 104, 105, 106, 107, 108, 109, 110, 111, 112, 113, 114, 115, 116, 117, 118, 119, 120, 121, 122, 48, 49, 50, 51, 52, 53, 54, 55, 56, 57, 46])
  g_MOST_PASSED : GlV mg Z "MOST_PASSED" (.int 10000000000000000000000000000000000000000)
  g_NOUGHT : GlV mg Z "NOUGHT" (.tup [.int 0, .int 1])
  g_ONE : GlV mg Z "ONE" (.tup [.int 1, .int 1])
  c_is_integer_1 : Cal Pg w mg base Z rt n "is_integer" n_is_integer 1 []
  c_common_divisor_2 : Cal Pg w mg base Z rt n "common_divisor" n_common_divisor 2 []
  c_reduced_2 : Cal Pg w mg base Z rt n "reduced" n_reduced 2 []
  c_is_number_1 : Cal Pg w mg base Z rt n "is_number" n_is_number 1 []
  c_added_2 : Cal Pg w mg base Z rt n "added" n_added 2 []
  c_require_number_1 : Cal Pg w mg base Z rt n "require_number" n_require_number 1 []
  c_opposite_1 : Cal Pg w mg base Z rt n "opposite" n_opposite 1 []
  c_multiplied_2 : Cal Pg w mg base Z rt n "multiplied" n_multiplied 2 []
  c_divided_2 : Cal Pg w mg base Z rt n "divided" n_divided 2 []
  c_sum_of_1 : Cal Pg w mg base Z rt n "sum_of" n_sum_of 1 []
  c_require_count_1 : Cal Pg w mg base Z rt n "require_count" n_require_count 1 [.int 0, .int 60]
  c__law_roll_2 : Cal Pg w mg base Z rt n "_law_roll" n__law_roll 2 []
  c__law_fr_2 : Cal Pg w mg base Z rt n "_law_fr" n__law_fr 2 []
  c__law_pick_2 : Cal Pg w mg base Z rt n "_law_pick" n__law_pick 2 []
  c__law_some_1 : Cal Pg w mg base Z rt n "_law_some" n__law_some 1 []
  c__law_is_number_1 : Cal Pg w mg base Z rt n "_law_is_number" n__law_is_number 1 []
  c_is_name_1 : Cal Pg w mg base Z rt n "is_name" n_is_name 1 []
  c__law_is_name_1 : Cal Pg w mg base Z rt n "_law_is_name" n__law_is_name 1 []
  c_plus_2 : Cal Pg w mg base Z rt n "plus" n_plus 2 []
  c_minus_2 : Cal Pg w mg base Z rt n "minus" n_minus 2 []
  c_times_2 : Cal Pg w mg base Z rt n "times" n_times 2 []
  c_compared_2 : Cal Pg w mg base Z rt n "compared" n_compared 2 []
  c_over_2 : Cal Pg w mg base Z rt n "over" n_over 2 []
  c_total_1 : Cal Pg w mg base Z rt n "total" n_total 1 []
  c_power_2 : Cal Pg w mg base Z rt n "power" n_power 2 []
  c_number_2 : Cal Pg w mg base Z rt n "number" n_number 2 []
  c__law_dice_2 : Cal Pg w mg base Z rt n "_law_dice" n__law_dice 2 []
  c__law_right_1 : Cal Pg w mg base Z rt n "_law_right" n__law_right 1 []
  r_InvalidFraction : RaM Pg Z.K mg Z "InvalidFraction" 2
  v_InvalidCount : RaV Pg w Z.K mg Z "InvalidCount" 3 true
  v_Refused : RaV Pg w Z.K mg Z "Refused" 4 false
  h_Refused : HdF mg Z.toBm "Refused" fm_Refused
  h_InvalidCount : HdF mg Z.toBm "InvalidCount" fm_InvalidCount
  h_InvalidFraction : HdF mg Z.toBm "InvalidFraction" fm_InvalidFraction
  x_Refused : XfF Z.toBm fm_Refused "reason"
  x_InvalidCount : XfF Z.toBm fm_InvalidCount "given"
section
variable {Pg : Program} {w : World} {mg : Str → Option Value} {base : Heap} {Z : Am} {rt : Rt} {n : Nat}
theorem Facts0.lam {B : Bm} {T : List (Addr × Str)} {l l' : Nat → Addr → Rho → Hp → Prop} {lk lk'} (F : Facts0 Pg w mg base ⟨B, T, l, lk⟩ rt n) (pl : PlainRt rt) (no : ∀ u ρ H, ¬ l' 1000 u ρ H) : Facts0 Pg w mg base ⟨B, T, l', lk'⟩ rt n := ⟨no, F.b_isinstance, F.b_int, F.b_bool, F.b_str, F.b_len, F.b_all, F.b_abs, F.b_tuple, F.b_range, F.b_max, F.b_repr, F.b_min, F.g_MAX_LETTERS.lam, F.g_LETTERS.lam, F.g_SIGNS.lam, F.g_MOST_PASSED.lam, F.g_NOUGHT.lam, F.g_ONE.lam, F.c_is_integer_1.lam pl, F.c_common_divisor_2.lam pl, F.c_reduced_2.lam pl, F.c_is_number_1.lam pl, F.c_added_2.lam pl, F.c_require_number_1.lam pl, F.c_opposite_1.lam pl, F.c_multiplied_2.lam pl, F.c_divided_2.lam pl, F.c_sum_of_1.lam pl, F.c_require_count_1.lam pl, F.c__law_roll_2.lam pl, F.c__law_fr_2.lam pl, F.c__law_pick_2.lam pl, F.c__law_some_1.lam pl, F.c__law_is_number_1.lam pl, F.c_is_name_1.lam pl, F.c__law_is_name_1.lam pl, F.c_plus_2.lam pl, F.c_minus_2.lam pl, F.c_times_2.lam pl, F.c_compared_2.lam pl, F.c_over_2.lam pl, F.c_total_1.lam pl, F.c_power_2.lam pl, F.c_number_2.lam pl, F.c__law_dice_2.lam pl, F.c__law_right_1.lam pl, ⟨F.r_InvalidFraction.ex⟩, ⟨F.v_InvalidCount.ex⟩, ⟨F.v_Refused.ex⟩, F.h_Refused, F.h_InvalidCount, F.h_InvalidFraction, F.x_Refused, F.x_InvalidCount⟩
/-! ### _law_word -/
abbrev s_39 : Stmt := top 39
abbrev N_39 : List Str := ["call", "error"]
abbrev ps_39 : List Str := ["call"]
theorem sc_39 : FnScope N_39 ps_39 (defScope s_39) := ⟨rfl, rfl, rfl, by decide +kernel, rfl, by decide +kernel, by decide +kernel⟩
theorem L39_0_repr : ((defScope s_39)).names.lookup ("repr" : Str) = some NameKind.globalImplicit := by kernel_rfl
theorem L39_0_Refused : ((defScope s_39)).names.lookup ("Refused" : Str) = some NameKind.globalImplicit := by kernel_rfl
theorem L39_0_error : ((defScope s_39)).names.lookup ("error" : Str) = some NameKind.local := by kernel_rfl
theorem L39_0_InvalidCount : ((defScope s_39)).names.lookup ("InvalidCount" : Str) = some NameKind.globalImplicit := by kernel_rfl
theorem L39_0_InvalidFraction : ((defScope s_39)).names.lookup ("InvalidFraction" : Str) = some NameKind.globalImplicit := by kernel_rfl
abbrev X_39 (Pg : Program) (w : World) (mg : Str → Option Value) (base : Heap) (Z : Am) (fA : Addr) (cdv : Value) (A0 : Around) (o0 : List Env) (s0 : Shared) (H0 : Hp) (E0 : XK) : Cx := cxOf (L2.CX Pg w) Pg w Z.K mg base N_39 "_law_word" (defScope s_39) fA cdv A0 o0 s0 H0 E0
def m__law_word (r : Mem → RE) : SS := (seqS (tryS (exprS (actE 0 r)) ((fm_InvalidFraction, none, fun _ => (retS (cst (.str [102, 114, 97, 99, 116, 105, 111, 110])))) :: ((fm_InvalidCount, some 1, fun d => (retS (binE (addD false) (cst (.str [99, 111, 117, 110, 116, 32])) (callB reprD (consA (xfE 1 d) nilA))))) :: ((fm_Refused, some 1, fun d => (retS (binE (addD false) (cst (.str [114, 101, 102, 117, 115, 101, 100, 32])) (callB reprD (consA (xfE 1 d) nilA))))) :: []))))
  (retS (cst (.str [102, 105, 110, 101]))))
theorem b_39 (F : Facts0 Pg w mg base Z rt n) (r : Mem → RE) (fA : Addr) (cdv : Value) (A0 : Around) (o0 : List Env) (s0 : Shared) (H0 : Hp) (E0 : XK) (hr : RoomG (n + 1) (A0.deeper (envOfC "_law_word" (defScope s_39) s0.heap.objs.size fA cdv)))
    (hact : ∀ (W : WX) (pn : List (Addr × Obj)) (xe : Value → Shared → Prop) (p1 p2 : Pos), Takes ((X_39 Pg w mg base Z fA cdv A0 o0 s0 H0 E0).tr pn xe) W → PE ((X_39 Pg w mg base Z fA cdv A0 o0 s0 H0 E0).tr pn xe) (.Call (.Name "call" p1) [] [] p2) (tE Z rt W (actE 0 r))) :
    PSs (X_39 Pg w mg base Z fA cdv A0 o0 s0 H0 E0) (defBody s_39) (tS Z rt (fun cls d _ H' => E0 cls d H') (m__law_word r)) := by
  have C : Ct (X_39 Pg w mg base Z fA cdv A0 o0 s0 H0 E0) Z (fun cls d _ H' => E0 cls d H') n := ⟨rfl, rfl, sc_39.nd, hr.mono (by omega), takes_of rfl rfl rfl rfl⟩
  exact (pss_consS (ps_tryS C rfl rfl (fun _ _ _ tk po => (pss_oneS (ps_exprS (hact _ _ _ _ _ tk) (eSet0 rfl))))
  (hd_bare C F.h_InvalidFraction L39_0_InvalidFraction Nm_InvalidFraction (fun _ _ C => (pss_oneS (ps_retS (eStr (by decide +kernel)))))
  (hd_nam (i := 1) C F.h_InvalidCount F.x_InvalidCount L39_0_InvalidCount Nm_InvalidCount rfl L39_0_error Nm_error F.no (fun _ _ _ _ C xf => (pss_oneS (ps_retS (sAdd C false (eStr (by decide +kernel)) (sRepr C L39_0_repr F.b_repr rfl (pa_consD rfl (xf _ _) pa_nilD))))))
  (hd_nam (i := 1) C F.h_Refused F.x_Refused L39_0_Refused Nm_Refused rfl L39_0_error Nm_error F.no (fun _ _ _ _ C xf => (pss_oneS (ps_retS (sAdd C false (eStr (by decide +kernel)) (sRepr C L39_0_repr F.b_repr rfl (pa_consD rfl (xf _ _) pa_nilD))))))
  .nil))))
  (pss_oneS (ps_retS (eStr (by decide +kernel)))))
structure Facts (Pg : Program) (w : World) (mg : Str → Option Value) (base : Heap) (Z : Am) (rt : Rt) (n : Nat) : Prop extends Facts0 Pg w mg base Z rt n where
  ok : True
  w__law_word : Wd Pg w mg base Z.toBm Z.T rt n "_law_word" 2 m__law_word
theorem Facts.lam {B : Bm} {T : List (Addr × Str)} {l l' : Nat → Addr → Rho → Hp → Prop} {lk lk'} (F : Facts Pg w mg base ⟨B, T, l, lk⟩ rt n) (pl : PlainRt rt) (no : ∀ u ρ H, ¬ l' 1000 u ρ H) : Facts Pg w mg base ⟨B, T, l', lk'⟩ rt n := ⟨F.toFacts0.lam pl no, trivial, F.w__law_word⟩
/-! ### is_integer -/
abbrev s_13 : Stmt := top 13
abbrev N_13 : List Str := ["value"]
abbrev ps_13 : List Str := ["value"]
theorem sc_13 : FnScope N_13 ps_13 (defScope s_13) := ⟨rfl, rfl, rfl, by decide +kernel, rfl, by decide +kernel, by decide +kernel⟩
theorem L13_0_value : ((defScope s_13)).names.lookup ("value" : Str) = some NameKind.local := by kernel_rfl
theorem L13_0_isinstance : ((defScope s_13)).names.lookup ("isinstance" : Str) = some NameKind.globalImplicit := by kernel_rfl
theorem L13_0_int : ((defScope s_13)).names.lookup ("int" : Str) = some NameKind.globalImplicit := by kernel_rfl
theorem L13_0_bool : ((defScope s_13)).names.lookup ("bool" : Str) = some NameKind.globalImplicit := by kernel_rfl
abbrev X_13 (Pg : Program) (w : World) (mg : Str → Option Value) (base : Heap) (Z : Am) (fA : Addr) (cdv : Value) (A0 : Around) (o0 : List Env) (s0 : Shared) (H0 : Hp) (E0 : XK) : Cx := cxOf (L2.CX Pg w) Pg w Z.K mg base N_13 "is_integer" (defScope s_13) fA cdv A0 o0 s0 H0 E0
def m_is_integer : SS := (retS (andE (unE (isiD .int) (var 0)) (notE (unE (isiD .bool) (var 0)))))
theorem b_13 (F : Facts Pg w mg base Z rt n) (fA : Addr) (cdv : Value) (A0 : Around) (o0 : List Env) (s0 : Shared) (H0 : Hp) (E0 : XK) (hr : RoomG (n + 3) (A0.deeper (envOfC "is_integer" (defScope s_13) s0.heap.objs.size fA cdv))) :
    PSs (X_13 Pg w mg base Z fA cdv A0 o0 s0 H0 E0) (defBody s_13) (tS Z rt (fun cls d _ H' => E0 cls d H') m_is_integer) := by
  have C3 : Ct (X_13 Pg w mg base Z fA cdv A0 o0 s0 H0 E0) Z (fun cls d _ H' => E0 cls d H') (n + 3) := ⟨rfl, rfl, sc_13.nd, hr, takes_of rfl rfl rfl rfl⟩
  have C : Ct (X_13 Pg w mg base Z fA cdv A0 o0 s0 H0 E0) Z (fun cls d _ H' => E0 cls d H') n := C3.mono (by omega)
  exact (pss_oneS (ps_retS (eAnd C (eIsi C .int L13_0_isinstance F.b_isinstance L13_0_int F.b_int (by decide +kernel) Nm_int rfl (eVar (i := 0) rfl (.inl L13_0_value) Nm_value)) (pv_one (eNot C (eIsi C .bool L13_0_isinstance F.b_isinstance L13_0_bool F.b_bool (by decide +kernel) Nm_bool rfl (eVar (i := 0) rfl (.inl L13_0_value) Nm_value)))))))
/-! ### is_name -/
abbrev s_14 : Stmt := top 14
abbrev N_14 : List Str := ["value", "sign"]
abbrev ps_14 : List Str := ["value"]
theorem sc_14 : FnScope N_14 ps_14 (defScope s_14) := ⟨rfl, rfl, rfl, by decide +kernel, rfl, by decide +kernel, by decide +kernel⟩
abbrev cs14_0 : Scope := ⟨.function, [(".0", .local), ("sign", .local), ("SIGNS", .globalImplicit)], false, false, []⟩
theorem L14_0_value : ((defScope s_14)).names.lookup ("value" : Str) = some NameKind.local := by kernel_rfl
theorem L14_0_isinstance : ((defScope s_14)).names.lookup ("isinstance" : Str) = some NameKind.globalImplicit := by kernel_rfl
theorem L14_0_str : ((defScope s_14)).names.lookup ("str" : Str) = some NameKind.globalImplicit := by kernel_rfl
theorem L14_0_len : ((defScope s_14)).names.lookup ("len" : Str) = some NameKind.globalImplicit := by kernel_rfl
theorem L14_0_MAX_LETTERS : ((defScope s_14)).names.lookup ("MAX_LETTERS" : Str) = some NameKind.globalImplicit := by kernel_rfl
theorem L14_0_LETTERS : ((defScope s_14)).names.lookup ("LETTERS" : Str) = some NameKind.globalImplicit := by kernel_rfl
theorem L14_1_sign : (relS cs14_0 (defScope s_14)).names.lookup ("sign" : Str) = some NameKind.local := by kernel_rfl
theorem L14_1_SIGNS : (relS cs14_0 (defScope s_14)).names.lookup ("SIGNS" : Str) = some NameKind.globalImplicit := by kernel_rfl
theorem bk14_0 : BlkOk N_14 ((defScope s_14)) cs14_0 [("sign", 1)] := blkOk_by (by decide +kernel)
theorem L14_0_all : ((defScope s_14)).names.lookup ("all" : Str) = some NameKind.globalImplicit := by kernel_rfl
abbrev X_14 (Pg : Program) (w : World) (mg : Str → Option Value) (base : Heap) (Z : Am) (fA : Addr) (cdv : Value) (A0 : Around) (o0 : List Env) (s0 : Shared) (H0 : Hp) (E0 : XK) : Cx := cxOf (L2.CX Pg w) Pg w Z.K mg base N_14 "is_name" (defScope s_14) fA cdv A0 o0 s0 H0 E0
def m_is_name : SS := (seqS (ifS (orT (notT (truE (unE (isiD .str) (var 0)))) (orT (notT (truE (chainE (cmpD .LtE) (cmpD .LtE) (cst (.int 1)) (callB lenD (consA (var 0) nilA)) (cst (.int 12))))) (truE (binE (cmpD .NotIn) (binE idxD (var 0) (cst (.int 0))) (cst (.str [97, 98, 99, 100, 101, 102, 103, 104, 105, 106, 107, 108, 109, 110, 111, 112, 113, 114, 115, 116, 117, 118, 119, 120, 121, 122])))))) (retS (cst (.bl false))) nilS)
  (retS (callB allD (consA (lcE false [1] (valI (var 0)) (nameG 1) yesT (binE (cmpD .In) (var 1) (cst (.str [97, 98, 99, 100, 101, 102, 103, 104, 105, 106, 107, 108, 109, 110, 111, 112, 113, 114, 115, 116, 117, 118, 119, 120, 121, 122, 48, 49, 50, 51, 52, 53, 54, 55, 56, 57, 46])))) nilA))))
theorem b_14 (F : Facts Pg w mg base Z rt n) (fA : Addr) (cdv : Value) (A0 : Around) (o0 : List Env) (s0 : Shared) (H0 : Hp) (E0 : XK) (hr : RoomG (n + 3) (A0.deeper (envOfC "is_name" (defScope s_14) s0.heap.objs.size fA cdv))) :
    PSs (X_14 Pg w mg base Z fA cdv A0 o0 s0 H0 E0) (defBody s_14) (tS Z rt (fun cls d _ H' => E0 cls d H') m_is_name) := by
  have C3 : Ct (X_14 Pg w mg base Z fA cdv A0 o0 s0 H0 E0) Z (fun cls d _ H' => E0 cls d H') (n + 3) := ⟨rfl, rfl, sc_14.nd, hr, takes_of rfl rfl rfl rfl⟩
  have C : Ct (X_14 Pg w mg base Z fA cdv A0 o0 s0 H0 E0) Z (fun cls d _ H' => E0 cls d H') n := C3.mono (by omega)
  exact (pss_consS (ps_ifS (PW.pt (pw_orD (pt_notD (tPl C rfl (eIsi C .str L14_0_isinstance F.b_isinstance L14_0_str F.b_str (by decide +kernel) Nm_str rfl (eVar (i := 0) rfl (.inl L14_0_value) Nm_value)))) (pw_orD (pt_notD (tCp2 C .LtE .LtE pv_int (eB lenD_noX (cr_lenD C.K) L14_0_len F.b_len (by decide +kernel) Nm_len rfl (pa_consD rfl (eVar (i := 0) rfl (.inl L14_0_value) Nm_value) pa_nilD)) (eGlo F.g_MAX_LETTERS L14_0_MAX_LETTERS Nm_MAX_LETTERS) rfl)) (pw_or1D (tCp C .NotIn (eIdx C (eVar (i := 0) rfl (.inl L14_0_value) Nm_value) pv_int rfl) (eGlo F.g_LETTERS L14_0_LETTERS Nm_LETTERS) rfl))))) (pss_oneS (ps_retS pv_bl)) pss_nilS)
  (pss_oneS (ps_retS (eB allD_noX (cr_allD C.K C.calm) L14_0_all F.b_all (by decide +kernel) Nm_all rfl (pa_consD rfl (pv_lc (mk := false) (own := [("sign", 1)]) C.calm C.nd (by decide) (iVl C (eVar (i := 0) rfl (.inl L14_0_value) Nm_value)) bk14_0 (fun _ _ _ _ _ => (pg_nameD (C.blk _ _ _ _ _).nd rfl (.inl L14_1_sign) (.inr L14_1_sign))) (fun _ _ _ _ _ => pts_nilD) (fun _ _ _ _ _ => (eCmp (C.blk _ _ _ _ _) .In (eVar (i := 1) rfl (.inl L14_1_sign) Nm_sign) (eGlo F.g_SIGNS L14_1_SIGNS Nm_SIGNS) rfl)) (fold_of rfl)) pa_nilD)))))
/-! ### common_divisor -/
abbrev s_15 : Stmt := top 15
abbrev N_15 : List Str := ["one", "other"]
abbrev ps_15 : List Str := ["one", "other"]
theorem sc_15 : FnScope N_15 ps_15 (defScope s_15) := ⟨rfl, rfl, rfl, by decide +kernel, rfl, by decide +kernel, by decide +kernel⟩
theorem L15_0_other : ((defScope s_15)).names.lookup ("other" : Str) = some NameKind.local := by kernel_rfl
theorem L15_0_abs : ((defScope s_15)).names.lookup ("abs" : Str) = some NameKind.globalImplicit := by kernel_rfl
theorem L15_0_one : ((defScope s_15)).names.lookup ("one" : Str) = some NameKind.local := by kernel_rfl
abbrev X_15 (Pg : Program) (w : World) (mg : Str → Option Value) (base : Heap) (Z : Am) (fA : Addr) (cdv : Value) (A0 : Around) (o0 : List Env) (s0 : Shared) (H0 : Hp) (E0 : XK) : Cx := cxOf (L2.CX Pg w) Pg w Z.K mg base N_15 "common_divisor" (defScope s_15) fA cdv A0 o0 s0 H0 E0
def m_common_divisor : SS := (seqS (parS 0 1 (consA (callB absD (consA (var 0) nilA)) (consA (callB absD (consA (var 1) nilA)) nilA)))
  (seqS (whileS (truE (binE (cmpD .Gt) (var 1) (cst (.int 0)))) (parS 0 1 (consA (var 1) (consA (binE modD (var 0) (var 1)) nilA))))
  (retS (var 0))))
theorem b_15 (F : Facts Pg w mg base Z rt n) (fA : Addr) (cdv : Value) (A0 : Around) (o0 : List Env) (s0 : Shared) (H0 : Hp) (E0 : XK) (hr : RoomG (n + 3) (A0.deeper (envOfC "common_divisor" (defScope s_15) s0.heap.objs.size fA cdv))) :
    PSs (X_15 Pg w mg base Z fA cdv A0 o0 s0 H0 E0) (defBody s_15) (tS Z rt (fun cls d _ H' => E0 cls d H') m_common_divisor) := by
  have C3 : Ct (X_15 Pg w mg base Z fA cdv A0 o0 s0 H0 E0) Z (fun cls d _ H' => E0 cls d H') (n + 3) := ⟨rfl, rfl, sc_15.nd, hr, takes_of rfl rfl rfl rfl⟩
  have C : Ct (X_15 Pg w mg base Z fA cdv A0 o0 s0 H0 E0) Z (fun cls d _ H' => E0 cls d H') n := C3.mono (by omega)
  have po : PassesOwn (model Pg w) (A0.deeper (envOfC "common_divisor" (defScope s_15) s0.heap.objs.size fA cdv)) (envOfC "common_divisor" (defScope s_15) s0.heap.objs.size fA cdv) (X_15 Pg w mg base Z fA cdv A0 o0 s0 H0 E0).xe := passes_of (X := (X_15 Pg w mg base Z fA cdv A0 o0 s0 H0 E0)) rfl
  exact (pss_consS (ps_parS (i := 0) (j := 1) C.calm C.nd rfl rfl (by decide) L15_0_one L15_0_other (pa_consD rfl (eB absD_noX cr_absD L15_0_abs F.b_abs (by decide +kernel) Nm_abs rfl (pa_consD rfl (eVar (i := 0) rfl (.inl L15_0_one) Nm_one) pa_nilD)) (pa_consD rfl (eB absD_noX cr_absD L15_0_abs F.b_abs (by decide +kernel) Nm_abs rfl (pa_consD rfl (eVar (i := 1) rfl (.inl L15_0_other) Nm_other) pa_nilD)) pa_nilD)) (by kernel_rfl))
  (pss_consS (ps_whileS po (tCp C .Gt (eVar (i := 1) rfl (.inl L15_0_other) Nm_other) pv_int rfl) (pss_oneS (ps_parS (i := 0) (j := 1) C.calm C.nd rfl rfl (by decide) L15_0_one L15_0_other (pa_consD rfl (eVar (i := 1) rfl (.inl L15_0_other) Nm_other) (pa_consD rfl (eMod (eVar (i := 0) rfl (.inl L15_0_one) Nm_one) (eVar (i := 1) rfl (.inl L15_0_other) Nm_other)) pa_nilD)) (by kernel_rfl))))
  (pss_oneS (ps_retS (eVar (i := 0) rfl (.inl L15_0_one) Nm_one)))))
/-! ### is_number -/
abbrev s_16 : Stmt := top 16
abbrev N_16 : List Str := ["value", "one"]
abbrev ps_16 : List Str := ["value"]
theorem sc_16 : FnScope N_16 ps_16 (defScope s_16) := ⟨rfl, rfl, rfl, by decide +kernel, rfl, by decide +kernel, by decide +kernel⟩
abbrev cs16_0 : Scope := ⟨.function, [(".0", .local), ("one", .local), ("is_integer", .globalImplicit)], false, false, []⟩
theorem L16_0_value : ((defScope s_16)).names.lookup ("value" : Str) = some NameKind.local := by kernel_rfl
theorem L16_0_isinstance : ((defScope s_16)).names.lookup ("isinstance" : Str) = some NameKind.globalImplicit := by kernel_rfl
theorem L16_0_tuple : ((defScope s_16)).names.lookup ("tuple" : Str) = some NameKind.globalImplicit := by kernel_rfl
theorem L16_0_len : ((defScope s_16)).names.lookup ("len" : Str) = some NameKind.globalImplicit := by kernel_rfl
theorem L16_1_one : (relS cs16_0 (defScope s_16)).names.lookup ("one" : Str) = some NameKind.local := by kernel_rfl
theorem L16_1_is_integer : (relS cs16_0 (defScope s_16)).names.lookup ("is_integer" : Str) = some NameKind.globalImplicit := by kernel_rfl
theorem bk16_0 : BlkOk N_16 ((defScope s_16)) cs16_0 [("one", 1)] := blkOk_by (by decide +kernel)
theorem L16_0_all : ((defScope s_16)).names.lookup ("all" : Str) = some NameKind.globalImplicit := by kernel_rfl
theorem L16_0_common_divisor : ((defScope s_16)).names.lookup ("common_divisor" : Str) = some NameKind.globalImplicit := by kernel_rfl
abbrev X_16 (Pg : Program) (w : World) (mg : Str → Option Value) (base : Heap) (Z : Am) (fA : Addr) (cdv : Value) (A0 : Around) (o0 : List Env) (s0 : Shared) (H0 : Hp) (E0 : XK) : Cx := cxOf (L2.CX Pg w) Pg w Z.K mg base N_16 "is_number" (defScope s_16) fA cdv A0 o0 s0 H0 E0
def m_is_number : SS := (seqS (ifS (orT (notT (truE (unE (isiD .tuple) (var 0)))) (orT (truE (binE (cmpD .NotEq) (callB lenD (consA (var 0) nilA)) (cst (.int 2)))) (notT (truE (callB allD (consA (lcE false [1] (valI (var 0)) (nameG 1) yesT (callF true n_is_integer [] (consA (var 1) nilA))) nilA)))))) (retS (cst (.bl false))) nilS)
  (retS (andE (binE (cmpD .GtE) (binE idxD (var 0) (cst (.int 1))) (cst (.int 1))) (binE (cmpD .Eq) (callF true n_common_divisor [] (consA (binE idxD (var 0) (cst (.int 0))) (consA (binE idxD (var 0) (cst (.int 1))) nilA))) (cst (.int 1))))))
theorem b_16 (F : Facts Pg w mg base Z rt n) (fA : Addr) (cdv : Value) (A0 : Around) (o0 : List Env) (s0 : Shared) (H0 : Hp) (E0 : XK) (hr : RoomG (n + 3) (A0.deeper (envOfC "is_number" (defScope s_16) s0.heap.objs.size fA cdv))) :
    PSs (X_16 Pg w mg base Z fA cdv A0 o0 s0 H0 E0) (defBody s_16) (tS Z rt (fun cls d _ H' => E0 cls d H') m_is_number) := by
  have C3 : Ct (X_16 Pg w mg base Z fA cdv A0 o0 s0 H0 E0) Z (fun cls d _ H' => E0 cls d H') (n + 3) := ⟨rfl, rfl, sc_16.nd, hr, takes_of rfl rfl rfl rfl⟩
  have C : Ct (X_16 Pg w mg base Z fA cdv A0 o0 s0 H0 E0) Z (fun cls d _ H' => E0 cls d H') n := C3.mono (by omega)
  exact (pss_consS (ps_ifS (PW.pt (pw_orD (pt_notD (tPl C rfl (eIsi C .tuple L16_0_isinstance F.b_isinstance L16_0_tuple F.b_tuple (by decide +kernel) Nm_tuple rfl (eVar (i := 0) rfl (.inl L16_0_value) Nm_value)))) (pw_orD (tCp C .NotEq (eB lenD_noX (cr_lenD C.K) L16_0_len F.b_len (by decide +kernel) Nm_len rfl (pa_consD rfl (eVar (i := 0) rfl (.inl L16_0_value) Nm_value) pa_nilD)) pv_int rfl) (pw_or1D (pt_notD (tPl C rfl (eB allD_noX (cr_allD C.K C.calm) L16_0_all F.b_all (by decide +kernel) Nm_all rfl (pa_consD rfl (pv_lc (mk := false) (own := [("one", 1)]) C.calm C.nd (by decide) (iVl C (eVar (i := 0) rfl (.inl L16_0_value) Nm_value)) bk16_0 (fun _ _ _ _ _ => (pg_nameD (C.blk _ _ _ _ _).nd rfl (.inl L16_1_one) (.inr L16_1_one))) (fun _ _ _ _ _ => pts_nilD) (fun _ _ _ _ _ => (eFn true (C.blk _ _ _ _ _) F.c_is_integer_1 L16_1_is_integer Nm_is_integer rfl (pa_consD rfl (eVar (i := 1) rfl (.inl L16_1_one) Nm_one) pa_nilD) (consA_len nilA_len) rfl)) (fold_of rfl)) pa_nilD)))))))) (pss_oneS (ps_retS pv_bl)) pss_nilS)
  (pss_oneS (ps_retS (eAnd C (eCmp C .GtE (eIdx C (eVar (i := 0) rfl (.inl L16_0_value) Nm_value) pv_int rfl) pv_int rfl) (pv_one (eCmp C .Eq (eFn true C F.c_common_divisor_2 L16_0_common_divisor Nm_common_divisor rfl (pa_consD rfl (eIdx C (eVar (i := 0) rfl (.inl L16_0_value) Nm_value) pv_int rfl) (pa_consD rfl (eIdx C (eVar (i := 0) rfl (.inl L16_0_value) Nm_value) pv_int rfl) pa_nilD)) (consA_len (consA_len nilA_len)) rfl) pv_int rfl))))))
/-! ### reduced -/
abbrev s_17 : Stmt := top 17
abbrev N_17 : List Str := ["top", "bottom", "divisor"]
abbrev ps_17 : List Str := ["top", "bottom"]
theorem sc_17 : FnScope N_17 ps_17 (defScope s_17) := ⟨rfl, rfl, rfl, by decide +kernel, rfl, by decide +kernel, by decide +kernel⟩
theorem L17_0_bottom : ((defScope s_17)).names.lookup ("bottom" : Str) = some NameKind.local := by kernel_rfl
theorem L17_0_top : ((defScope s_17)).names.lookup ("top" : Str) = some NameKind.local := by kernel_rfl
theorem L17_0_common_divisor : ((defScope s_17)).names.lookup ("common_divisor" : Str) = some NameKind.globalImplicit := by kernel_rfl
theorem L17_0_divisor : ((defScope s_17)).names.lookup ("divisor" : Str) = some NameKind.local := by kernel_rfl
abbrev X_17 (Pg : Program) (w : World) (mg : Str → Option Value) (base : Heap) (Z : Am) (fA : Addr) (cdv : Value) (A0 : Around) (o0 : List Env) (s0 : Shared) (H0 : Hp) (E0 : XK) : Cx := cxOf (L2.CX Pg w) Pg w Z.K mg base N_17 "reduced" (defScope s_17) fA cdv A0 o0 s0 H0 E0
def m_reduced : SS := (seqS (ifS (truE (binE (cmpD .Lt) (var 1) (cst (.int 0)))) (parS 0 1 (consA (binE subD (cst (.int 0)) (var 0)) (consA (binE subD (cst (.int 0)) (var 1)) nilA))) nilS)
  (seqS (setS 2 (callF true n_common_divisor [] (consA (var 0) (consA (var 1) nilA))))
  (retS (tupE (consA (binE fdivD (var 0) (var 2)) (consA (binE fdivD (var 1) (var 2)) nilA))))))
theorem b_17 (F : Facts Pg w mg base Z rt n) (fA : Addr) (cdv : Value) (A0 : Around) (o0 : List Env) (s0 : Shared) (H0 : Hp) (E0 : XK) (hr : RoomG (n + 3) (A0.deeper (envOfC "reduced" (defScope s_17) s0.heap.objs.size fA cdv))) :
    PSs (X_17 Pg w mg base Z fA cdv A0 o0 s0 H0 E0) (defBody s_17) (tS Z rt (fun cls d _ H' => E0 cls d H') m_reduced) := by
  have C3 : Ct (X_17 Pg w mg base Z fA cdv A0 o0 s0 H0 E0) Z (fun cls d _ H' => E0 cls d H') (n + 3) := ⟨rfl, rfl, sc_17.nd, hr, takes_of rfl rfl rfl rfl⟩
  have C : Ct (X_17 Pg w mg base Z fA cdv A0 o0 s0 H0 E0) Z (fun cls d _ H' => E0 cls d H') n := C3.mono (by omega)
  exact (pss_consS (ps_ifS (tCp C .Lt (eVar (i := 1) rfl (.inl L17_0_bottom) Nm_bottom) pv_int rfl) (pss_oneS (ps_parS (i := 0) (j := 1) C.calm C.nd rfl rfl (by decide) L17_0_top L17_0_bottom (pa_consD rfl (eSub pv_int (eVar (i := 0) rfl (.inl L17_0_top) Nm_top)) (pa_consD rfl (eSub pv_int (eVar (i := 1) rfl (.inl L17_0_bottom) Nm_bottom)) pa_nilD)) (by kernel_rfl))) pss_nilS)
  (pss_consS (ps_setS (i := 2) C.nd rfl (.inl L17_0_divisor) (.inl rfl) (eFn true C F.c_common_divisor_2 L17_0_common_divisor Nm_common_divisor rfl (pa_consD rfl (eVar (i := 0) rfl (.inl L17_0_top) Nm_top) (pa_consD rfl (eVar (i := 1) rfl (.inl L17_0_bottom) Nm_bottom) pa_nilD)) (consA_len (consA_len nilA_len)) rfl) (eSet0 rfl))
  (pss_oneS (ps_retS (eTup (pa_consD rfl (eFdiv (eVar (i := 0) rfl (.inl L17_0_top) Nm_top) (eVar (i := 2) rfl (.inl L17_0_divisor) Nm_divisor)) (pa_consD rfl (eFdiv (eVar (i := 1) rfl (.inl L17_0_bottom) Nm_bottom) (eVar (i := 2) rfl (.inl L17_0_divisor) Nm_divisor)) pa_nilD)))))))
/-! ### number -/
abbrev s_18 : Stmt := top 18
abbrev N_18 : List Str := ["top", "bottom"]
abbrev ps_18 : List Str := ["top", "bottom"]
theorem sc_18 : FnScope N_18 ps_18 (defScope s_18) := ⟨rfl, rfl, rfl, by decide +kernel, rfl, by decide +kernel, by decide +kernel⟩
theorem L18_0_top : ((defScope s_18)).names.lookup ("top" : Str) = some NameKind.local := by kernel_rfl
theorem L18_0_is_integer : ((defScope s_18)).names.lookup ("is_integer" : Str) = some NameKind.globalImplicit := by kernel_rfl
theorem L18_0_abs : ((defScope s_18)).names.lookup ("abs" : Str) = some NameKind.globalImplicit := by kernel_rfl
theorem L18_0_MOST_PASSED : ((defScope s_18)).names.lookup ("MOST_PASSED" : Str) = some NameKind.globalImplicit := by kernel_rfl
theorem L18_0_InvalidCount : ((defScope s_18)).names.lookup ("InvalidCount" : Str) = some NameKind.globalImplicit := by kernel_rfl
theorem L18_0_bottom : ((defScope s_18)).names.lookup ("bottom" : Str) = some NameKind.local := by kernel_rfl
theorem L18_0_reduced : ((defScope s_18)).names.lookup ("reduced" : Str) = some NameKind.globalImplicit := by kernel_rfl
abbrev X_18 (Pg : Program) (w : World) (mg : Str → Option Value) (base : Heap) (Z : Am) (fA : Addr) (cdv : Value) (A0 : Around) (o0 : List Env) (s0 : Shared) (H0 : Hp) (E0 : XK) : Cx := cxOf (L2.CX Pg w) Pg w Z.K mg base N_18 "number" (defScope s_18) fA cdv A0 o0 s0 H0 E0
def m_number : SS := (seqS (ifS (orT (notT (truE (callF true n_is_integer [] (consA (var 0) nilA)))) (truE (binE (cmpD .GtE) (callB absD (consA (var 0) nilA)) (cst (.int 10000000000000000000000000000000000000000))))) (raiseV 3 true (var 0)) nilS)
  (seqS (ifS (orT (notT (truE (callF true n_is_integer [] (consA (var 1) nilA)))) (orT (truE (binE (cmpD .GtE) (callB absD (consA (var 1) nilA)) (cst (.int 10000000000000000000000000000000000000000)))) (truE (binE (cmpD .Eq) (var 1) (cst (.int 0)))))) (raiseV 3 true (var 1)) nilS)
  (retS (callF true n_reduced [] (consA (var 0) (consA (var 1) nilA))))))
theorem b_18 (F : Facts Pg w mg base Z rt n) (fA : Addr) (cdv : Value) (A0 : Around) (o0 : List Env) (s0 : Shared) (H0 : Hp) (E0 : XK) (hr : RoomG (n + 3) (A0.deeper (envOfC "number" (defScope s_18) s0.heap.objs.size fA cdv))) :
    PSs (X_18 Pg w mg base Z fA cdv A0 o0 s0 H0 E0) (defBody s_18) (tS Z rt (fun cls d _ H' => E0 cls d H') m_number) := by
  have C3 : Ct (X_18 Pg w mg base Z fA cdv A0 o0 s0 H0 E0) Z (fun cls d _ H' => E0 cls d H') (n + 3) := ⟨rfl, rfl, sc_18.nd, hr, takes_of rfl rfl rfl rfl⟩
  have C : Ct (X_18 Pg w mg base Z fA cdv A0 o0 s0 H0 E0) Z (fun cls d _ H' => E0 cls d H') n := C3.mono (by omega)
  exact (pss_consS (ps_ifS (PW.pt (pw_orD (pt_notD (tPl C rfl (eFn true C F.c_is_integer_1 L18_0_is_integer Nm_is_integer rfl (pa_consD rfl (eVar (i := 0) rfl (.inl L18_0_top) Nm_top) pa_nilD) (consA_len nilA_len) rfl))) (pw_or1D (tCp C .GtE (eB absD_noX cr_absD L18_0_abs F.b_abs (by decide +kernel) Nm_abs rfl (pa_consD rfl (eVar (i := 0) rfl (.inl L18_0_top) Nm_top) pa_nilD)) (eGlo F.g_MOST_PASSED L18_0_MOST_PASSED Nm_MOST_PASSED) rfl)))) (pss_oneS (ps_raiseV C3 F.v_InvalidCount L18_0_InvalidCount Nm_InvalidCount (eVar (i := 0) rfl (.inl L18_0_top) Nm_top) rfl)) pss_nilS)
  (pss_consS (ps_ifS (PW.pt (pw_orD (pt_notD (tPl C rfl (eFn true C F.c_is_integer_1 L18_0_is_integer Nm_is_integer rfl (pa_consD rfl (eVar (i := 1) rfl (.inl L18_0_bottom) Nm_bottom) pa_nilD) (consA_len nilA_len) rfl))) (pw_orD (tCp C .GtE (eB absD_noX cr_absD L18_0_abs F.b_abs (by decide +kernel) Nm_abs rfl (pa_consD rfl (eVar (i := 1) rfl (.inl L18_0_bottom) Nm_bottom) pa_nilD)) (eGlo F.g_MOST_PASSED L18_0_MOST_PASSED Nm_MOST_PASSED) rfl) (pw_or1D (tCp C .Eq (eVar (i := 1) rfl (.inl L18_0_bottom) Nm_bottom) pv_int rfl))))) (pss_oneS (ps_raiseV C3 F.v_InvalidCount L18_0_InvalidCount Nm_InvalidCount (eVar (i := 1) rfl (.inl L18_0_bottom) Nm_bottom) rfl)) pss_nilS)
  (pss_oneS (ps_retS (eFn true C F.c_reduced_2 L18_0_reduced Nm_reduced rfl (pa_consD rfl (eVar (i := 0) rfl (.inl L18_0_top) Nm_top) (pa_consD rfl (eVar (i := 1) rfl (.inl L18_0_bottom) Nm_bottom) pa_nilD)) (consA_len (consA_len nilA_len)) rfl)))))
/-! ### require_number -/
abbrev s_19 : Stmt := top 19
abbrev N_19 : List Str := ["value"]
abbrev ps_19 : List Str := ["value"]
theorem sc_19 : FnScope N_19 ps_19 (defScope s_19) := ⟨rfl, rfl, rfl, by decide +kernel, rfl, by decide +kernel, by decide +kernel⟩
theorem L19_0_value : ((defScope s_19)).names.lookup ("value" : Str) = some NameKind.local := by kernel_rfl
theorem L19_0_is_number : ((defScope s_19)).names.lookup ("is_number" : Str) = some NameKind.globalImplicit := by kernel_rfl
theorem L19_0_InvalidFraction : ((defScope s_19)).names.lookup ("InvalidFraction" : Str) = some NameKind.globalImplicit := by kernel_rfl
abbrev X_19 (Pg : Program) (w : World) (mg : Str → Option Value) (base : Heap) (Z : Am) (fA : Addr) (cdv : Value) (A0 : Around) (o0 : List Env) (s0 : Shared) (H0 : Hp) (E0 : XK) : Cx := cxOf (L2.CX Pg w) Pg w Z.K mg base N_19 "require_number" (defScope s_19) fA cdv A0 o0 s0 H0 E0
def m_require_number : SS := (ifS (notT (truE (callF true n_is_number [] (consA (var 0) nilA)))) (raiseM 2) nilS)
theorem b_19 (F : Facts Pg w mg base Z rt n) (fA : Addr) (cdv : Value) (A0 : Around) (o0 : List Env) (s0 : Shared) (H0 : Hp) (E0 : XK) (hr : RoomG (n + 3) (A0.deeper (envOfC "require_number" (defScope s_19) s0.heap.objs.size fA cdv))) :
    PSs (X_19 Pg w mg base Z fA cdv A0 o0 s0 H0 E0) (defBody s_19) (tS Z rt (fun cls d _ H' => E0 cls d H') m_require_number) := by
  have C3 : Ct (X_19 Pg w mg base Z fA cdv A0 o0 s0 H0 E0) Z (fun cls d _ H' => E0 cls d H') (n + 3) := ⟨rfl, rfl, sc_19.nd, hr, takes_of rfl rfl rfl rfl⟩
  have C : Ct (X_19 Pg w mg base Z fA cdv A0 o0 s0 H0 E0) Z (fun cls d _ H' => E0 cls d H') n := C3.mono (by omega)
  exact (pss_oneS (ps_ifS (pt_notD (tPl C rfl (eFn true C F.c_is_number_1 L19_0_is_number Nm_is_number rfl (pa_consD rfl (eVar (i := 0) rfl (.inl L19_0_value) Nm_value) pa_nilD) (consA_len nilA_len) rfl))) (pss_oneS (ps_raiseM C F.r_InvalidFraction L19_0_InvalidFraction Nm_InvalidFraction)) pss_nilS))
/-! ### require_count -/
abbrev s_20 : Stmt := top 20
abbrev N_20 : List Str := ["value", "least", "most"]
abbrev ps_20 : List Str := ["value", "least", "most"]
theorem sc_20 : FnScope N_20 ps_20 (defScope s_20) := ⟨rfl, rfl, rfl, by decide +kernel, rfl, by decide +kernel, by decide +kernel⟩
theorem L20_0_value : ((defScope s_20)).names.lookup ("value" : Str) = some NameKind.local := by kernel_rfl
theorem L20_0_is_integer : ((defScope s_20)).names.lookup ("is_integer" : Str) = some NameKind.globalImplicit := by kernel_rfl
theorem L20_0_least : ((defScope s_20)).names.lookup ("least" : Str) = some NameKind.local := by kernel_rfl
theorem L20_0_most : ((defScope s_20)).names.lookup ("most" : Str) = some NameKind.local := by kernel_rfl
theorem L20_0_InvalidCount : ((defScope s_20)).names.lookup ("InvalidCount" : Str) = some NameKind.globalImplicit := by kernel_rfl
abbrev X_20 (Pg : Program) (w : World) (mg : Str → Option Value) (base : Heap) (Z : Am) (fA : Addr) (cdv : Value) (A0 : Around) (o0 : List Env) (s0 : Shared) (H0 : Hp) (E0 : XK) : Cx := cxOf (L2.CX Pg w) Pg w Z.K mg base N_20 "require_count" (defScope s_20) fA cdv A0 o0 s0 H0 E0
def m_require_count : SS := (ifS (orT (notT (truE (callF true n_is_integer [] (consA (var 0) nilA)))) (notT (truE (chainE (cmpD .LtE) (cmpD .LtE) (var 1) (var 0) (var 2))))) (raiseV 3 true (var 0)) nilS)
theorem b_20 (F : Facts Pg w mg base Z rt n) (fA : Addr) (cdv : Value) (A0 : Around) (o0 : List Env) (s0 : Shared) (H0 : Hp) (E0 : XK) (hr : RoomG (n + 3) (A0.deeper (envOfC "require_count" (defScope s_20) s0.heap.objs.size fA cdv))) :
    PSs (X_20 Pg w mg base Z fA cdv A0 o0 s0 H0 E0) (defBody s_20) (tS Z rt (fun cls d _ H' => E0 cls d H') m_require_count) := by
  have C3 : Ct (X_20 Pg w mg base Z fA cdv A0 o0 s0 H0 E0) Z (fun cls d _ H' => E0 cls d H') (n + 3) := ⟨rfl, rfl, sc_20.nd, hr, takes_of rfl rfl rfl rfl⟩
  have C : Ct (X_20 Pg w mg base Z fA cdv A0 o0 s0 H0 E0) Z (fun cls d _ H' => E0 cls d H') n := C3.mono (by omega)
  exact (pss_oneS (ps_ifS (PW.pt (pw_orD (pt_notD (tPl C rfl (eFn true C F.c_is_integer_1 L20_0_is_integer Nm_is_integer rfl (pa_consD rfl (eVar (i := 0) rfl (.inl L20_0_value) Nm_value) pa_nilD) (consA_len nilA_len) rfl))) (pw_or1D (pt_notD (tCp2 C .LtE .LtE (eVar (i := 1) rfl (.inl L20_0_least) Nm_least) (eVar (i := 0) rfl (.inl L20_0_value) Nm_value) (eVar (i := 2) rfl (.inl L20_0_most) Nm_most) rfl))))) (pss_oneS (ps_raiseV C3 F.v_InvalidCount L20_0_InvalidCount Nm_InvalidCount (eVar (i := 0) rfl (.inl L20_0_value) Nm_value) rfl)) pss_nilS))
/-! ### added -/
abbrev s_21 : Stmt := top 21
abbrev N_21 : List Str := ["one", "other"]
abbrev ps_21 : List Str := ["one", "other"]
theorem sc_21 : FnScope N_21 ps_21 (defScope s_21) := ⟨rfl, rfl, rfl, by decide +kernel, rfl, by decide +kernel, by decide +kernel⟩
theorem L21_0_one : ((defScope s_21)).names.lookup ("one" : Str) = some NameKind.local := by kernel_rfl
theorem L21_0_other : ((defScope s_21)).names.lookup ("other" : Str) = some NameKind.local := by kernel_rfl
theorem L21_0_reduced : ((defScope s_21)).names.lookup ("reduced" : Str) = some NameKind.globalImplicit := by kernel_rfl
abbrev X_21 (Pg : Program) (w : World) (mg : Str → Option Value) (base : Heap) (Z : Am) (fA : Addr) (cdv : Value) (A0 : Around) (o0 : List Env) (s0 : Shared) (H0 : Hp) (E0 : XK) : Cx := cxOf (L2.CX Pg w) Pg w Z.K mg base N_21 "added" (defScope s_21) fA cdv A0 o0 s0 H0 E0
def m_added : SS := (seqS (ifS (truE (chainE (cmpD .Eq) (cmpD .Eq) (binE idxD (var 0) (cst (.int 1))) (binE idxD (var 1) (cst (.int 1))) (cst (.int 1)))) (retS (tupE (consA (binE (addD false) (binE idxD (var 0) (cst (.int 0))) (binE idxD (var 1) (cst (.int 0)))) (consA (cst (.int 1)) nilA)))) nilS)
  (retS (callF true n_reduced [] (consA (binE (addD false) (binE (mulD false) (binE idxD (var 0) (cst (.int 0))) (binE idxD (var 1) (cst (.int 1)))) (binE (mulD false) (binE idxD (var 1) (cst (.int 0))) (binE idxD (var 0) (cst (.int 1))))) (consA (binE (mulD false) (binE idxD (var 0) (cst (.int 1))) (binE idxD (var 1) (cst (.int 1)))) nilA)))))
theorem b_21 (F : Facts Pg w mg base Z rt n) (fA : Addr) (cdv : Value) (A0 : Around) (o0 : List Env) (s0 : Shared) (H0 : Hp) (E0 : XK) (hr : RoomG (n + 3) (A0.deeper (envOfC "added" (defScope s_21) s0.heap.objs.size fA cdv))) :
    PSs (X_21 Pg w mg base Z fA cdv A0 o0 s0 H0 E0) (defBody s_21) (tS Z rt (fun cls d _ H' => E0 cls d H') m_added) := by
  have C3 : Ct (X_21 Pg w mg base Z fA cdv A0 o0 s0 H0 E0) Z (fun cls d _ H' => E0 cls d H') (n + 3) := ⟨rfl, rfl, sc_21.nd, hr, takes_of rfl rfl rfl rfl⟩
  have C : Ct (X_21 Pg w mg base Z fA cdv A0 o0 s0 H0 E0) Z (fun cls d _ H' => E0 cls d H') n := C3.mono (by omega)
  exact (pss_consS (ps_ifS (tCp2 C .Eq .Eq (eIdx C (eVar (i := 0) rfl (.inl L21_0_one) Nm_one) pv_int rfl) (eIdx C (eVar (i := 1) rfl (.inl L21_0_other) Nm_other) pv_int rfl) pv_int rfl) (pss_oneS (ps_retS (eTup (pa_consD rfl (eAdd C false (eIdx C (eVar (i := 0) rfl (.inl L21_0_one) Nm_one) pv_int rfl) (eIdx C (eVar (i := 1) rfl (.inl L21_0_other) Nm_other) pv_int rfl)) (pa_consD rfl pv_int pa_nilD))))) pss_nilS)
  (pss_oneS (ps_retS (eFn true C F.c_reduced_2 L21_0_reduced Nm_reduced rfl (pa_consD rfl (eAdd C false (eMul C false (eIdx C (eVar (i := 0) rfl (.inl L21_0_one) Nm_one) pv_int rfl) (eIdx C (eVar (i := 1) rfl (.inl L21_0_other) Nm_other) pv_int rfl)) (eMul C false (eIdx C (eVar (i := 1) rfl (.inl L21_0_other) Nm_other) pv_int rfl) (eIdx C (eVar (i := 0) rfl (.inl L21_0_one) Nm_one) pv_int rfl))) (pa_consD rfl (eMul C false (eIdx C (eVar (i := 0) rfl (.inl L21_0_one) Nm_one) pv_int rfl) (eIdx C (eVar (i := 1) rfl (.inl L21_0_other) Nm_other) pv_int rfl)) pa_nilD)) (consA_len (consA_len nilA_len)) rfl))))
/-! ### multiplied -/
abbrev s_22 : Stmt := top 22
abbrev N_22 : List Str := ["one", "other"]
abbrev ps_22 : List Str := ["one", "other"]
theorem sc_22 : FnScope N_22 ps_22 (defScope s_22) := ⟨rfl, rfl, rfl, by decide +kernel, rfl, by decide +kernel, by decide +kernel⟩
theorem L22_0_one : ((defScope s_22)).names.lookup ("one" : Str) = some NameKind.local := by kernel_rfl
theorem L22_0_other : ((defScope s_22)).names.lookup ("other" : Str) = some NameKind.local := by kernel_rfl
theorem L22_0_reduced : ((defScope s_22)).names.lookup ("reduced" : Str) = some NameKind.globalImplicit := by kernel_rfl
abbrev X_22 (Pg : Program) (w : World) (mg : Str → Option Value) (base : Heap) (Z : Am) (fA : Addr) (cdv : Value) (A0 : Around) (o0 : List Env) (s0 : Shared) (H0 : Hp) (E0 : XK) : Cx := cxOf (L2.CX Pg w) Pg w Z.K mg base N_22 "multiplied" (defScope s_22) fA cdv A0 o0 s0 H0 E0
def m_multiplied : SS := (seqS (ifS (truE (chainE (cmpD .Eq) (cmpD .Eq) (binE idxD (var 0) (cst (.int 1))) (binE idxD (var 1) (cst (.int 1))) (cst (.int 1)))) (retS (tupE (consA (binE (mulD false) (binE idxD (var 0) (cst (.int 0))) (binE idxD (var 1) (cst (.int 0)))) (consA (cst (.int 1)) nilA)))) nilS)
  (retS (callF true n_reduced [] (consA (binE (mulD false) (binE idxD (var 0) (cst (.int 0))) (binE idxD (var 1) (cst (.int 0)))) (consA (binE (mulD false) (binE idxD (var 0) (cst (.int 1))) (binE idxD (var 1) (cst (.int 1)))) nilA)))))
theorem b_22 (F : Facts Pg w mg base Z rt n) (fA : Addr) (cdv : Value) (A0 : Around) (o0 : List Env) (s0 : Shared) (H0 : Hp) (E0 : XK) (hr : RoomG (n + 3) (A0.deeper (envOfC "multiplied" (defScope s_22) s0.heap.objs.size fA cdv))) :
    PSs (X_22 Pg w mg base Z fA cdv A0 o0 s0 H0 E0) (defBody s_22) (tS Z rt (fun cls d _ H' => E0 cls d H') m_multiplied) := by
  have C3 : Ct (X_22 Pg w mg base Z fA cdv A0 o0 s0 H0 E0) Z (fun cls d _ H' => E0 cls d H') (n + 3) := ⟨rfl, rfl, sc_22.nd, hr, takes_of rfl rfl rfl rfl⟩
  have C : Ct (X_22 Pg w mg base Z fA cdv A0 o0 s0 H0 E0) Z (fun cls d _ H' => E0 cls d H') n := C3.mono (by omega)
  exact (pss_consS (ps_ifS (tCp2 C .Eq .Eq (eIdx C (eVar (i := 0) rfl (.inl L22_0_one) Nm_one) pv_int rfl) (eIdx C (eVar (i := 1) rfl (.inl L22_0_other) Nm_other) pv_int rfl) pv_int rfl) (pss_oneS (ps_retS (eTup (pa_consD rfl (eMul C false (eIdx C (eVar (i := 0) rfl (.inl L22_0_one) Nm_one) pv_int rfl) (eIdx C (eVar (i := 1) rfl (.inl L22_0_other) Nm_other) pv_int rfl)) (pa_consD rfl pv_int pa_nilD))))) pss_nilS)
  (pss_oneS (ps_retS (eFn true C F.c_reduced_2 L22_0_reduced Nm_reduced rfl (pa_consD rfl (eMul C false (eIdx C (eVar (i := 0) rfl (.inl L22_0_one) Nm_one) pv_int rfl) (eIdx C (eVar (i := 1) rfl (.inl L22_0_other) Nm_other) pv_int rfl)) (pa_consD rfl (eMul C false (eIdx C (eVar (i := 0) rfl (.inl L22_0_one) Nm_one) pv_int rfl) (eIdx C (eVar (i := 1) rfl (.inl L22_0_other) Nm_other) pv_int rfl)) pa_nilD)) (consA_len (consA_len nilA_len)) rfl))))
/-! ### opposite -/
abbrev s_23 : Stmt := top 23
abbrev N_23 : List Str := ["one"]
abbrev ps_23 : List Str := ["one"]
theorem sc_23 : FnScope N_23 ps_23 (defScope s_23) := ⟨rfl, rfl, rfl, by decide +kernel, rfl, by decide +kernel, by decide +kernel⟩
theorem L23_0_one : ((defScope s_23)).names.lookup ("one" : Str) = some NameKind.local := by kernel_rfl
abbrev X_23 (Pg : Program) (w : World) (mg : Str → Option Value) (base : Heap) (Z : Am) (fA : Addr) (cdv : Value) (A0 : Around) (o0 : List Env) (s0 : Shared) (H0 : Hp) (E0 : XK) : Cx := cxOf (L2.CX Pg w) Pg w Z.K mg base N_23 "opposite" (defScope s_23) fA cdv A0 o0 s0 H0 E0
def m_opposite : SS := (retS (tupE (consA (binE subD (cst (.int 0)) (binE idxD (var 0) (cst (.int 0)))) (consA (binE idxD (var 0) (cst (.int 1))) nilA))))
theorem b_23 (F : Facts Pg w mg base Z rt n) (fA : Addr) (cdv : Value) (A0 : Around) (o0 : List Env) (s0 : Shared) (H0 : Hp) (E0 : XK) (hr : RoomG (n + 3) (A0.deeper (envOfC "opposite" (defScope s_23) s0.heap.objs.size fA cdv))) :
    PSs (X_23 Pg w mg base Z fA cdv A0 o0 s0 H0 E0) (defBody s_23) (tS Z rt (fun cls d _ H' => E0 cls d H') m_opposite) := by
  have C3 : Ct (X_23 Pg w mg base Z fA cdv A0 o0 s0 H0 E0) Z (fun cls d _ H' => E0 cls d H') (n + 3) := ⟨rfl, rfl, sc_23.nd, hr, takes_of rfl rfl rfl rfl⟩
  have C : Ct (X_23 Pg w mg base Z fA cdv A0 o0 s0 H0 E0) Z (fun cls d _ H' => E0 cls d H') n := C3.mono (by omega)
  exact (pss_oneS (ps_retS (eTup (pa_consD rfl (eSub pv_int (eIdx C (eVar (i := 0) rfl (.inl L23_0_one) Nm_one) pv_int rfl)) (pa_consD rfl (eIdx C (eVar (i := 0) rfl (.inl L23_0_one) Nm_one) pv_int rfl) pa_nilD)))))
/-! ### divided -/
abbrev s_24 : Stmt := top 24
abbrev N_24 : List Str := ["one", "other"]
abbrev ps_24 : List Str := ["one", "other"]
theorem sc_24 : FnScope N_24 ps_24 (defScope s_24) := ⟨rfl, rfl, rfl, by decide +kernel, rfl, by decide +kernel, by decide +kernel⟩
theorem L24_0_one : ((defScope s_24)).names.lookup ("one" : Str) = some NameKind.local := by kernel_rfl
theorem L24_0_other : ((defScope s_24)).names.lookup ("other" : Str) = some NameKind.local := by kernel_rfl
theorem L24_0_reduced : ((defScope s_24)).names.lookup ("reduced" : Str) = some NameKind.globalImplicit := by kernel_rfl
abbrev X_24 (Pg : Program) (w : World) (mg : Str → Option Value) (base : Heap) (Z : Am) (fA : Addr) (cdv : Value) (A0 : Around) (o0 : List Env) (s0 : Shared) (H0 : Hp) (E0 : XK) : Cx := cxOf (L2.CX Pg w) Pg w Z.K mg base N_24 "divided" (defScope s_24) fA cdv A0 o0 s0 H0 E0
def m_divided : SS := (retS (callF true n_reduced [] (consA (binE (mulD false) (binE idxD (var 0) (cst (.int 0))) (binE idxD (var 1) (cst (.int 1)))) (consA (binE (mulD false) (binE idxD (var 0) (cst (.int 1))) (binE idxD (var 1) (cst (.int 0)))) nilA))))
theorem b_24 (F : Facts Pg w mg base Z rt n) (fA : Addr) (cdv : Value) (A0 : Around) (o0 : List Env) (s0 : Shared) (H0 : Hp) (E0 : XK) (hr : RoomG (n + 3) (A0.deeper (envOfC "divided" (defScope s_24) s0.heap.objs.size fA cdv))) :
    PSs (X_24 Pg w mg base Z fA cdv A0 o0 s0 H0 E0) (defBody s_24) (tS Z rt (fun cls d _ H' => E0 cls d H') m_divided) := by
  have C3 : Ct (X_24 Pg w mg base Z fA cdv A0 o0 s0 H0 E0) Z (fun cls d _ H' => E0 cls d H') (n + 3) := ⟨rfl, rfl, sc_24.nd, hr, takes_of rfl rfl rfl rfl⟩
  have C : Ct (X_24 Pg w mg base Z fA cdv A0 o0 s0 H0 E0) Z (fun cls d _ H' => E0 cls d H') n := C3.mono (by omega)
  exact (pss_oneS (ps_retS (eFn true C F.c_reduced_2 L24_0_reduced Nm_reduced rfl (pa_consD rfl (eMul C false (eIdx C (eVar (i := 0) rfl (.inl L24_0_one) Nm_one) pv_int rfl) (eIdx C (eVar (i := 1) rfl (.inl L24_0_other) Nm_other) pv_int rfl)) (pa_consD rfl (eMul C false (eIdx C (eVar (i := 0) rfl (.inl L24_0_one) Nm_one) pv_int rfl) (eIdx C (eVar (i := 1) rfl (.inl L24_0_other) Nm_other) pv_int rfl)) pa_nilD)) (consA_len (consA_len nilA_len)) rfl)))
/-! ### sum_of -/
abbrev s_25 : Stmt := top 25
abbrev N_25 : List Str := ["numbers", "found", "one"]
abbrev ps_25 : List Str := ["numbers"]
theorem sc_25 : FnScope N_25 ps_25 (defScope s_25) := ⟨rfl, rfl, rfl, by decide +kernel, rfl, by decide +kernel, by decide +kernel⟩
theorem L25_0_NOUGHT : ((defScope s_25)).names.lookup ("NOUGHT" : Str) = some NameKind.globalImplicit := by kernel_rfl
theorem L25_0_found : ((defScope s_25)).names.lookup ("found" : Str) = some NameKind.local := by kernel_rfl
theorem L25_0_numbers : ((defScope s_25)).names.lookup ("numbers" : Str) = some NameKind.local := by kernel_rfl
theorem L25_0_one : ((defScope s_25)).names.lookup ("one" : Str) = some NameKind.local := by kernel_rfl
theorem L25_0_added : ((defScope s_25)).names.lookup ("added" : Str) = some NameKind.globalImplicit := by kernel_rfl
abbrev X_25 (Pg : Program) (w : World) (mg : Str → Option Value) (base : Heap) (Z : Am) (fA : Addr) (cdv : Value) (A0 : Around) (o0 : List Env) (s0 : Shared) (H0 : Hp) (E0 : XK) : Cx := cxOf (L2.CX Pg w) Pg w Z.K mg base N_25 "sum_of" (defScope s_25) fA cdv A0 o0 s0 H0 E0
def m_sum_of : SS := (seqS (setS 1 (cst (.tup [.int 0, .int 1])))
  (seqS (forS (valI (var 0)) (nameG 2) (setS 1 (callF true n_added [] (consA (var 1) (consA (var 2) nilA)))))
  (retS (var 1))))
theorem b_25 (F : Facts Pg w mg base Z rt n) (fA : Addr) (cdv : Value) (A0 : Around) (o0 : List Env) (s0 : Shared) (H0 : Hp) (E0 : XK) (hr : RoomG (n + 3) (A0.deeper (envOfC "sum_of" (defScope s_25) s0.heap.objs.size fA cdv))) :
    PSs (X_25 Pg w mg base Z fA cdv A0 o0 s0 H0 E0) (defBody s_25) (tS Z rt (fun cls d _ H' => E0 cls d H') m_sum_of) := by
  have C3 : Ct (X_25 Pg w mg base Z fA cdv A0 o0 s0 H0 E0) Z (fun cls d _ H' => E0 cls d H') (n + 3) := ⟨rfl, rfl, sc_25.nd, hr, takes_of rfl rfl rfl rfl⟩
  have C : Ct (X_25 Pg w mg base Z fA cdv A0 o0 s0 H0 E0) Z (fun cls d _ H' => E0 cls d H') n := C3.mono (by omega)
  have po : PassesOwn (model Pg w) (A0.deeper (envOfC "sum_of" (defScope s_25) s0.heap.objs.size fA cdv)) (envOfC "sum_of" (defScope s_25) s0.heap.objs.size fA cdv) (X_25 Pg w mg base Z fA cdv A0 o0 s0 H0 E0).xe := passes_of (X := (X_25 Pg w mg base Z fA cdv A0 o0 s0 H0 E0)) rfl
  exact (pss_consS (ps_setS (i := 1) C.nd rfl (.inl L25_0_found) (.inl rfl) (eGlo F.g_NOUGHT L25_0_NOUGHT Nm_NOUGHT) (eSet0 rfl))
  (pss_consS (ps_forS C.K po C.calm (iVl C (eVar (i := 0) rfl (.inl L25_0_numbers) Nm_numbers)) (pg_nameD C.nd rfl (.inl L25_0_one) (.inl rfl)) (pss_oneS (ps_setS (i := 1) C.nd rfl (.inl L25_0_found) (.inl rfl) (eFn true C F.c_added_2 L25_0_added Nm_added rfl (pa_consD rfl (eVar (i := 1) rfl (.inl L25_0_found) Nm_found) (pa_consD rfl (eVar (i := 2) rfl (.inl L25_0_one) Nm_one) pa_nilD)) (consA_len (consA_len nilA_len)) rfl) (eSet0 rfl))) (fold_of rfl))
  (pss_oneS (ps_retS (eVar (i := 1) rfl (.inl L25_0_found) Nm_found)))))
/-! ### plus -/
abbrev s_26 : Stmt := top 26
abbrev N_26 : List Str := ["one", "other"]
abbrev ps_26 : List Str := ["one", "other"]
theorem sc_26 : FnScope N_26 ps_26 (defScope s_26) := ⟨rfl, rfl, rfl, by decide +kernel, rfl, by decide +kernel, by decide +kernel⟩
theorem L26_0_one : ((defScope s_26)).names.lookup ("one" : Str) = some NameKind.local := by kernel_rfl
theorem L26_0_require_number : ((defScope s_26)).names.lookup ("require_number" : Str) = some NameKind.globalImplicit := by kernel_rfl
theorem L26_0_other : ((defScope s_26)).names.lookup ("other" : Str) = some NameKind.local := by kernel_rfl
theorem L26_0_added : ((defScope s_26)).names.lookup ("added" : Str) = some NameKind.globalImplicit := by kernel_rfl
abbrev X_26 (Pg : Program) (w : World) (mg : Str → Option Value) (base : Heap) (Z : Am) (fA : Addr) (cdv : Value) (A0 : Around) (o0 : List Env) (s0 : Shared) (H0 : Hp) (E0 : XK) : Cx := cxOf (L2.CX Pg w) Pg w Z.K mg base N_26 "plus" (defScope s_26) fA cdv A0 o0 s0 H0 E0
def m_plus : SS := (seqS (exprS (callF true n_require_number [] (consA (var 0) nilA)))
  (seqS (exprS (callF true n_require_number [] (consA (var 1) nilA)))
  (retS (callF true n_added [] (consA (var 0) (consA (var 1) nilA))))))
theorem b_26 (F : Facts Pg w mg base Z rt n) (fA : Addr) (cdv : Value) (A0 : Around) (o0 : List Env) (s0 : Shared) (H0 : Hp) (E0 : XK) (hr : RoomG (n + 3) (A0.deeper (envOfC "plus" (defScope s_26) s0.heap.objs.size fA cdv))) :
    PSs (X_26 Pg w mg base Z fA cdv A0 o0 s0 H0 E0) (defBody s_26) (tS Z rt (fun cls d _ H' => E0 cls d H') m_plus) := by
  have C3 : Ct (X_26 Pg w mg base Z fA cdv A0 o0 s0 H0 E0) Z (fun cls d _ H' => E0 cls d H') (n + 3) := ⟨rfl, rfl, sc_26.nd, hr, takes_of rfl rfl rfl rfl⟩
  have C : Ct (X_26 Pg w mg base Z fA cdv A0 o0 s0 H0 E0) Z (fun cls d _ H' => E0 cls d H') n := C3.mono (by omega)
  exact (pss_consS (ps_exprS (eFn true C F.c_require_number_1 L26_0_require_number Nm_require_number rfl (pa_consD rfl (eVar (i := 0) rfl (.inl L26_0_one) Nm_one) pa_nilD) (consA_len nilA_len) rfl) (eSet0 rfl))
  (pss_consS (ps_exprS (eFn true C F.c_require_number_1 L26_0_require_number Nm_require_number rfl (pa_consD rfl (eVar (i := 1) rfl (.inl L26_0_other) Nm_other) pa_nilD) (consA_len nilA_len) rfl) (eSet0 rfl))
  (pss_oneS (ps_retS (eFn true C F.c_added_2 L26_0_added Nm_added rfl (pa_consD rfl (eVar (i := 0) rfl (.inl L26_0_one) Nm_one) (pa_consD rfl (eVar (i := 1) rfl (.inl L26_0_other) Nm_other) pa_nilD)) (consA_len (consA_len nilA_len)) rfl)))))
/-! ### minus -/
abbrev s_27 : Stmt := top 27
abbrev N_27 : List Str := ["one", "other"]
abbrev ps_27 : List Str := ["one", "other"]
theorem sc_27 : FnScope N_27 ps_27 (defScope s_27) := ⟨rfl, rfl, rfl, by decide +kernel, rfl, by decide +kernel, by decide +kernel⟩
theorem L27_0_one : ((defScope s_27)).names.lookup ("one" : Str) = some NameKind.local := by kernel_rfl
theorem L27_0_require_number : ((defScope s_27)).names.lookup ("require_number" : Str) = some NameKind.globalImplicit := by kernel_rfl
theorem L27_0_other : ((defScope s_27)).names.lookup ("other" : Str) = some NameKind.local := by kernel_rfl
theorem L27_0_opposite : ((defScope s_27)).names.lookup ("opposite" : Str) = some NameKind.globalImplicit := by kernel_rfl
theorem L27_0_added : ((defScope s_27)).names.lookup ("added" : Str) = some NameKind.globalImplicit := by kernel_rfl
abbrev X_27 (Pg : Program) (w : World) (mg : Str → Option Value) (base : Heap) (Z : Am) (fA : Addr) (cdv : Value) (A0 : Around) (o0 : List Env) (s0 : Shared) (H0 : Hp) (E0 : XK) : Cx := cxOf (L2.CX Pg w) Pg w Z.K mg base N_27 "minus" (defScope s_27) fA cdv A0 o0 s0 H0 E0
def m_minus : SS := (seqS (exprS (callF true n_require_number [] (consA (var 0) nilA)))
  (seqS (exprS (callF true n_require_number [] (consA (var 1) nilA)))
  (retS (callF true n_added [] (consA (var 0) (consA (callF true n_opposite [] (consA (var 1) nilA)) nilA))))))
theorem b_27 (F : Facts Pg w mg base Z rt n) (fA : Addr) (cdv : Value) (A0 : Around) (o0 : List Env) (s0 : Shared) (H0 : Hp) (E0 : XK) (hr : RoomG (n + 3) (A0.deeper (envOfC "minus" (defScope s_27) s0.heap.objs.size fA cdv))) :
    PSs (X_27 Pg w mg base Z fA cdv A0 o0 s0 H0 E0) (defBody s_27) (tS Z rt (fun cls d _ H' => E0 cls d H') m_minus) := by
  have C3 : Ct (X_27 Pg w mg base Z fA cdv A0 o0 s0 H0 E0) Z (fun cls d _ H' => E0 cls d H') (n + 3) := ⟨rfl, rfl, sc_27.nd, hr, takes_of rfl rfl rfl rfl⟩
  have C : Ct (X_27 Pg w mg base Z fA cdv A0 o0 s0 H0 E0) Z (fun cls d _ H' => E0 cls d H') n := C3.mono (by omega)
  exact (pss_consS (ps_exprS (eFn true C F.c_require_number_1 L27_0_require_number Nm_require_number rfl (pa_consD rfl (eVar (i := 0) rfl (.inl L27_0_one) Nm_one) pa_nilD) (consA_len nilA_len) rfl) (eSet0 rfl))
  (pss_consS (ps_exprS (eFn true C F.c_require_number_1 L27_0_require_number Nm_require_number rfl (pa_consD rfl (eVar (i := 1) rfl (.inl L27_0_other) Nm_other) pa_nilD) (consA_len nilA_len) rfl) (eSet0 rfl))
  (pss_oneS (ps_retS (eFn true C F.c_added_2 L27_0_added Nm_added rfl (pa_consD rfl (eVar (i := 0) rfl (.inl L27_0_one) Nm_one) (pa_consD rfl (eFn true C F.c_opposite_1 L27_0_opposite Nm_opposite rfl (pa_consD rfl (eVar (i := 1) rfl (.inl L27_0_other) Nm_other) pa_nilD) (consA_len nilA_len) rfl) pa_nilD)) (consA_len (consA_len nilA_len)) rfl)))))
/-! ### times -/
abbrev s_28 : Stmt := top 28
abbrev N_28 : List Str := ["one", "other"]
abbrev ps_28 : List Str := ["one", "other"]
theorem sc_28 : FnScope N_28 ps_28 (defScope s_28) := ⟨rfl, rfl, rfl, by decide +kernel, rfl, by decide +kernel, by decide +kernel⟩
theorem L28_0_one : ((defScope s_28)).names.lookup ("one" : Str) = some NameKind.local := by kernel_rfl
theorem L28_0_require_number : ((defScope s_28)).names.lookup ("require_number" : Str) = some NameKind.globalImplicit := by kernel_rfl
theorem L28_0_other : ((defScope s_28)).names.lookup ("other" : Str) = some NameKind.local := by kernel_rfl
theorem L28_0_multiplied : ((defScope s_28)).names.lookup ("multiplied" : Str) = some NameKind.globalImplicit := by kernel_rfl
abbrev X_28 (Pg : Program) (w : World) (mg : Str → Option Value) (base : Heap) (Z : Am) (fA : Addr) (cdv : Value) (A0 : Around) (o0 : List Env) (s0 : Shared) (H0 : Hp) (E0 : XK) : Cx := cxOf (L2.CX Pg w) Pg w Z.K mg base N_28 "times" (defScope s_28) fA cdv A0 o0 s0 H0 E0
def m_times : SS := (seqS (exprS (callF true n_require_number [] (consA (var 0) nilA)))
  (seqS (exprS (callF true n_require_number [] (consA (var 1) nilA)))
  (retS (callF true n_multiplied [] (consA (var 0) (consA (var 1) nilA))))))
theorem b_28 (F : Facts Pg w mg base Z rt n) (fA : Addr) (cdv : Value) (A0 : Around) (o0 : List Env) (s0 : Shared) (H0 : Hp) (E0 : XK) (hr : RoomG (n + 3) (A0.deeper (envOfC "times" (defScope s_28) s0.heap.objs.size fA cdv))) :
    PSs (X_28 Pg w mg base Z fA cdv A0 o0 s0 H0 E0) (defBody s_28) (tS Z rt (fun cls d _ H' => E0 cls d H') m_times) := by
  have C3 : Ct (X_28 Pg w mg base Z fA cdv A0 o0 s0 H0 E0) Z (fun cls d _ H' => E0 cls d H') (n + 3) := ⟨rfl, rfl, sc_28.nd, hr, takes_of rfl rfl rfl rfl⟩
  have C : Ct (X_28 Pg w mg base Z fA cdv A0 o0 s0 H0 E0) Z (fun cls d _ H' => E0 cls d H') n := C3.mono (by omega)
  exact (pss_consS (ps_exprS (eFn true C F.c_require_number_1 L28_0_require_number Nm_require_number rfl (pa_consD rfl (eVar (i := 0) rfl (.inl L28_0_one) Nm_one) pa_nilD) (consA_len nilA_len) rfl) (eSet0 rfl))
  (pss_consS (ps_exprS (eFn true C F.c_require_number_1 L28_0_require_number Nm_require_number rfl (pa_consD rfl (eVar (i := 1) rfl (.inl L28_0_other) Nm_other) pa_nilD) (consA_len nilA_len) rfl) (eSet0 rfl))
  (pss_oneS (ps_retS (eFn true C F.c_multiplied_2 L28_0_multiplied Nm_multiplied rfl (pa_consD rfl (eVar (i := 0) rfl (.inl L28_0_one) Nm_one) (pa_consD rfl (eVar (i := 1) rfl (.inl L28_0_other) Nm_other) pa_nilD)) (consA_len (consA_len nilA_len)) rfl)))))
/-! ### over -/
abbrev s_29 : Stmt := top 29
abbrev N_29 : List Str := ["one", "other"]
abbrev ps_29 : List Str := ["one", "other"]
theorem sc_29 : FnScope N_29 ps_29 (defScope s_29) := ⟨rfl, rfl, rfl, by decide +kernel, rfl, by decide +kernel, by decide +kernel⟩
theorem L29_0_one : ((defScope s_29)).names.lookup ("one" : Str) = some NameKind.local := by kernel_rfl
theorem L29_0_require_number : ((defScope s_29)).names.lookup ("require_number" : Str) = some NameKind.globalImplicit := by kernel_rfl
theorem L29_0_other : ((defScope s_29)).names.lookup ("other" : Str) = some NameKind.local := by kernel_rfl
theorem L29_0_NOUGHT : ((defScope s_29)).names.lookup ("NOUGHT" : Str) = some NameKind.globalImplicit := by kernel_rfl
theorem L29_0_Refused : ((defScope s_29)).names.lookup ("Refused" : Str) = some NameKind.globalImplicit := by kernel_rfl
theorem L29_0_divided : ((defScope s_29)).names.lookup ("divided" : Str) = some NameKind.globalImplicit := by kernel_rfl
abbrev X_29 (Pg : Program) (w : World) (mg : Str → Option Value) (base : Heap) (Z : Am) (fA : Addr) (cdv : Value) (A0 : Around) (o0 : List Env) (s0 : Shared) (H0 : Hp) (E0 : XK) : Cx := cxOf (L2.CX Pg w) Pg w Z.K mg base N_29 "over" (defScope s_29) fA cdv A0 o0 s0 H0 E0
def m_over : SS := (seqS (exprS (callF true n_require_number [] (consA (var 0) nilA)))
  (seqS (exprS (callF true n_require_number [] (consA (var 1) nilA)))
  (seqS (ifS (truE (binE (cmpD .Eq) (var 1) (cst (.tup [.int 0, .int 1])))) (raiseV 4 false (tupE (consA (cst (.str [110, 111, 117, 103, 104, 116])) nilA))) nilS)
  (retS (callF true n_divided [] (consA (var 0) (consA (var 1) nilA)))))))
theorem b_29 (F : Facts Pg w mg base Z rt n) (fA : Addr) (cdv : Value) (A0 : Around) (o0 : List Env) (s0 : Shared) (H0 : Hp) (E0 : XK) (hr : RoomG (n + 3) (A0.deeper (envOfC "over" (defScope s_29) s0.heap.objs.size fA cdv))) :
    PSs (X_29 Pg w mg base Z fA cdv A0 o0 s0 H0 E0) (defBody s_29) (tS Z rt (fun cls d _ H' => E0 cls d H') m_over) := by
  have C3 : Ct (X_29 Pg w mg base Z fA cdv A0 o0 s0 H0 E0) Z (fun cls d _ H' => E0 cls d H') (n + 3) := ⟨rfl, rfl, sc_29.nd, hr, takes_of rfl rfl rfl rfl⟩
  have C : Ct (X_29 Pg w mg base Z fA cdv A0 o0 s0 H0 E0) Z (fun cls d _ H' => E0 cls d H') n := C3.mono (by omega)
  exact (pss_consS (ps_exprS (eFn true C F.c_require_number_1 L29_0_require_number Nm_require_number rfl (pa_consD rfl (eVar (i := 0) rfl (.inl L29_0_one) Nm_one) pa_nilD) (consA_len nilA_len) rfl) (eSet0 rfl))
  (pss_consS (ps_exprS (eFn true C F.c_require_number_1 L29_0_require_number Nm_require_number rfl (pa_consD rfl (eVar (i := 1) rfl (.inl L29_0_other) Nm_other) pa_nilD) (consA_len nilA_len) rfl) (eSet0 rfl))
  (pss_consS (ps_ifS (tCp C .Eq (eVar (i := 1) rfl (.inl L29_0_other) Nm_other) (eGlo F.g_NOUGHT L29_0_NOUGHT Nm_NOUGHT) rfl) (pss_oneS (ps_raiseV C3 F.v_Refused L29_0_Refused Nm_Refused (eTup (pa_consD rfl (eStr (by decide +kernel)) pa_nilD)) rfl)) pss_nilS)
  (pss_oneS (ps_retS (eFn true C F.c_divided_2 L29_0_divided Nm_divided rfl (pa_consD rfl (eVar (i := 0) rfl (.inl L29_0_one) Nm_one) (pa_consD rfl (eVar (i := 1) rfl (.inl L29_0_other) Nm_other) pa_nilD)) (consA_len (consA_len nilA_len)) rfl))))))
/-! ### compared -/
abbrev s_30 : Stmt := top 30
abbrev N_30 : List Str := ["one", "other", "left", "right"]
abbrev ps_30 : List Str := ["one", "other"]
theorem sc_30 : FnScope N_30 ps_30 (defScope s_30) := ⟨rfl, rfl, rfl, by decide +kernel, rfl, by decide +kernel, by decide +kernel⟩
theorem L30_0_one : ((defScope s_30)).names.lookup ("one" : Str) = some NameKind.local := by kernel_rfl
theorem L30_0_require_number : ((defScope s_30)).names.lookup ("require_number" : Str) = some NameKind.globalImplicit := by kernel_rfl
theorem L30_0_other : ((defScope s_30)).names.lookup ("other" : Str) = some NameKind.local := by kernel_rfl
theorem L30_0_left : ((defScope s_30)).names.lookup ("left" : Str) = some NameKind.local := by kernel_rfl
theorem L30_0_right : ((defScope s_30)).names.lookup ("right" : Str) = some NameKind.local := by kernel_rfl
theorem L30_0_int : ((defScope s_30)).names.lookup ("int" : Str) = some NameKind.globalImplicit := by kernel_rfl
abbrev X_30 (Pg : Program) (w : World) (mg : Str → Option Value) (base : Heap) (Z : Am) (fA : Addr) (cdv : Value) (A0 : Around) (o0 : List Env) (s0 : Shared) (H0 : Hp) (E0 : XK) : Cx := cxOf (L2.CX Pg w) Pg w Z.K mg base N_30 "compared" (defScope s_30) fA cdv A0 o0 s0 H0 E0
def m_compared : SS := (seqS (exprS (callF true n_require_number [] (consA (var 0) nilA)))
  (seqS (exprS (callF true n_require_number [] (consA (var 1) nilA)))
  (seqS (parS 2 3 (consA (binE (mulD false) (binE idxD (var 0) (cst (.int 0))) (binE idxD (var 1) (cst (.int 1)))) (consA (binE (mulD false) (binE idxD (var 1) (cst (.int 0))) (binE idxD (var 0) (cst (.int 1)))) nilA)))
  (retS (binE subD (callB int1D (consA (binE (cmpD .Gt) (var 2) (var 3)) nilA)) (callB int1D (consA (binE (cmpD .Lt) (var 2) (var 3)) nilA)))))))
theorem b_30 (F : Facts Pg w mg base Z rt n) (fA : Addr) (cdv : Value) (A0 : Around) (o0 : List Env) (s0 : Shared) (H0 : Hp) (E0 : XK) (hr : RoomG (n + 3) (A0.deeper (envOfC "compared" (defScope s_30) s0.heap.objs.size fA cdv))) :
    PSs (X_30 Pg w mg base Z fA cdv A0 o0 s0 H0 E0) (defBody s_30) (tS Z rt (fun cls d _ H' => E0 cls d H') m_compared) := by
  have C3 : Ct (X_30 Pg w mg base Z fA cdv A0 o0 s0 H0 E0) Z (fun cls d _ H' => E0 cls d H') (n + 3) := ⟨rfl, rfl, sc_30.nd, hr, takes_of rfl rfl rfl rfl⟩
  have C : Ct (X_30 Pg w mg base Z fA cdv A0 o0 s0 H0 E0) Z (fun cls d _ H' => E0 cls d H') n := C3.mono (by omega)
  exact (pss_consS (ps_exprS (eFn true C F.c_require_number_1 L30_0_require_number Nm_require_number rfl (pa_consD rfl (eVar (i := 0) rfl (.inl L30_0_one) Nm_one) pa_nilD) (consA_len nilA_len) rfl) (eSet0 rfl))
  (pss_consS (ps_exprS (eFn true C F.c_require_number_1 L30_0_require_number Nm_require_number rfl (pa_consD rfl (eVar (i := 1) rfl (.inl L30_0_other) Nm_other) pa_nilD) (consA_len nilA_len) rfl) (eSet0 rfl))
  (pss_consS (ps_parS (i := 2) (j := 3) C.calm C.nd rfl rfl (by decide) L30_0_left L30_0_right (pa_consD rfl (eMul C false (eIdx C (eVar (i := 0) rfl (.inl L30_0_one) Nm_one) pv_int rfl) (eIdx C (eVar (i := 1) rfl (.inl L30_0_other) Nm_other) pv_int rfl)) (pa_consD rfl (eMul C false (eIdx C (eVar (i := 1) rfl (.inl L30_0_other) Nm_other) pv_int rfl) (eIdx C (eVar (i := 0) rfl (.inl L30_0_one) Nm_one) pv_int rfl)) pa_nilD)) (by kernel_rfl))
  (pss_oneS (ps_retS (eSub (eT int1D_noX cr_int1D L30_0_int F.b_int (by decide +kernel) Nm_int rfl (pa_consD rfl (eCmp C .Gt (eVar (i := 2) rfl (.inl L30_0_left) Nm_left) (eVar (i := 3) rfl (.inl L30_0_right) Nm_right) rfl) pa_nilD)) (eT int1D_noX cr_int1D L30_0_int F.b_int (by decide +kernel) Nm_int rfl (pa_consD rfl (eCmp C .Lt (eVar (i := 2) rfl (.inl L30_0_left) Nm_left) (eVar (i := 3) rfl (.inl L30_0_right) Nm_right) rfl) pa_nilD))))))))
/-! ### total -/
abbrev s_31 : Stmt := top 31
abbrev N_31 : List Str := ["numbers", "one"]
abbrev ps_31 : List Str := ["numbers"]
theorem sc_31 : FnScope N_31 ps_31 (defScope s_31) := ⟨rfl, rfl, rfl, by decide +kernel, rfl, by decide +kernel, by decide +kernel⟩
abbrev cs31_0 : Scope := ⟨.function, [(".0", .local), ("one", .local), ("is_number", .globalImplicit)], false, false, []⟩
theorem L31_0_numbers : ((defScope s_31)).names.lookup ("numbers" : Str) = some NameKind.local := by kernel_rfl
theorem L31_0_isinstance : ((defScope s_31)).names.lookup ("isinstance" : Str) = some NameKind.globalImplicit := by kernel_rfl
theorem L31_0_tuple : ((defScope s_31)).names.lookup ("tuple" : Str) = some NameKind.globalImplicit := by kernel_rfl
theorem L31_1_one : (relS cs31_0 (defScope s_31)).names.lookup ("one" : Str) = some NameKind.local := by kernel_rfl
theorem L31_1_is_number : (relS cs31_0 (defScope s_31)).names.lookup ("is_number" : Str) = some NameKind.globalImplicit := by kernel_rfl
theorem bk31_0 : BlkOk N_31 ((defScope s_31)) cs31_0 [("one", 1)] := blkOk_by (by decide +kernel)
theorem L31_0_all : ((defScope s_31)).names.lookup ("all" : Str) = some NameKind.globalImplicit := by kernel_rfl
theorem L31_0_InvalidFraction : ((defScope s_31)).names.lookup ("InvalidFraction" : Str) = some NameKind.globalImplicit := by kernel_rfl
theorem L31_0_sum_of : ((defScope s_31)).names.lookup ("sum_of" : Str) = some NameKind.globalImplicit := by kernel_rfl
abbrev X_31 (Pg : Program) (w : World) (mg : Str → Option Value) (base : Heap) (Z : Am) (fA : Addr) (cdv : Value) (A0 : Around) (o0 : List Env) (s0 : Shared) (H0 : Hp) (E0 : XK) : Cx := cxOf (L2.CX Pg w) Pg w Z.K mg base N_31 "total" (defScope s_31) fA cdv A0 o0 s0 H0 E0
def m_total : SS := (seqS (ifS (orT (notT (truE (unE (isiD .tuple) (var 0)))) (notT (truE (callB allD (consA (lcE false [1] (valI (var 0)) (nameG 1) yesT (callF true n_is_number [] (consA (var 1) nilA))) nilA))))) (raiseM 2) nilS)
  (retS (callF true n_sum_of [] (consA (var 0) nilA))))
theorem b_31 (F : Facts Pg w mg base Z rt n) (fA : Addr) (cdv : Value) (A0 : Around) (o0 : List Env) (s0 : Shared) (H0 : Hp) (E0 : XK) (hr : RoomG (n + 3) (A0.deeper (envOfC "total" (defScope s_31) s0.heap.objs.size fA cdv))) :
    PSs (X_31 Pg w mg base Z fA cdv A0 o0 s0 H0 E0) (defBody s_31) (tS Z rt (fun cls d _ H' => E0 cls d H') m_total) := by
  have C3 : Ct (X_31 Pg w mg base Z fA cdv A0 o0 s0 H0 E0) Z (fun cls d _ H' => E0 cls d H') (n + 3) := ⟨rfl, rfl, sc_31.nd, hr, takes_of rfl rfl rfl rfl⟩
  have C : Ct (X_31 Pg w mg base Z fA cdv A0 o0 s0 H0 E0) Z (fun cls d _ H' => E0 cls d H') n := C3.mono (by omega)
  exact (pss_consS (ps_ifS (PW.pt (pw_orD (pt_notD (tPl C rfl (eIsi C .tuple L31_0_isinstance F.b_isinstance L31_0_tuple F.b_tuple (by decide +kernel) Nm_tuple rfl (eVar (i := 0) rfl (.inl L31_0_numbers) Nm_numbers)))) (pw_or1D (pt_notD (tPl C rfl (eB allD_noX (cr_allD C.K C.calm) L31_0_all F.b_all (by decide +kernel) Nm_all rfl (pa_consD rfl (pv_lc (mk := false) (own := [("one", 1)]) C.calm C.nd (by decide) (iVl C (eVar (i := 0) rfl (.inl L31_0_numbers) Nm_numbers)) bk31_0 (fun _ _ _ _ _ => (pg_nameD (C.blk _ _ _ _ _).nd rfl (.inl L31_1_one) (.inr L31_1_one))) (fun _ _ _ _ _ => pts_nilD) (fun _ _ _ _ _ => (eFn true (C.blk _ _ _ _ _) F.c_is_number_1 L31_1_is_number Nm_is_number rfl (pa_consD rfl (eVar (i := 1) rfl (.inl L31_1_one) Nm_one) pa_nilD) (consA_len nilA_len) rfl)) (fold_of rfl)) pa_nilD))))))) (pss_oneS (ps_raiseM C F.r_InvalidFraction L31_0_InvalidFraction Nm_InvalidFraction)) pss_nilS)
  (pss_oneS (ps_retS (eFn true C F.c_sum_of_1 L31_0_sum_of Nm_sum_of rfl (pa_consD rfl (eVar (i := 0) rfl (.inl L31_0_numbers) Nm_numbers) pa_nilD) (consA_len nilA_len) rfl))))
/-! ### power -/
abbrev s_32 : Stmt := top 32
abbrev N_32 : List Str := ["one", "many", "found", "_"]
abbrev ps_32 : List Str := ["one", "many"]
theorem sc_32 : FnScope N_32 ps_32 (defScope s_32) := ⟨rfl, rfl, rfl, by decide +kernel, rfl, by decide +kernel, by decide +kernel⟩
theorem L32_0_one : ((defScope s_32)).names.lookup ("one" : Str) = some NameKind.local := by kernel_rfl
theorem L32_0_require_number : ((defScope s_32)).names.lookup ("require_number" : Str) = some NameKind.globalImplicit := by kernel_rfl
theorem L32_0_many : ((defScope s_32)).names.lookup ("many" : Str) = some NameKind.local := by kernel_rfl
theorem L32_0_require_count : ((defScope s_32)).names.lookup ("require_count" : Str) = some NameKind.globalImplicit := by kernel_rfl
theorem L32_0_ONE : ((defScope s_32)).names.lookup ("ONE" : Str) = some NameKind.globalImplicit := by kernel_rfl
theorem L32_0_found : ((defScope s_32)).names.lookup ("found" : Str) = some NameKind.local := by kernel_rfl
theorem L32_0_range : ((defScope s_32)).names.lookup ("range" : Str) = some NameKind.globalImplicit := by kernel_rfl
theorem L32_0__ : ((defScope s_32)).names.lookup ("_" : Str) = some NameKind.local := by kernel_rfl
theorem L32_0_multiplied : ((defScope s_32)).names.lookup ("multiplied" : Str) = some NameKind.globalImplicit := by kernel_rfl
abbrev X_32 (Pg : Program) (w : World) (mg : Str → Option Value) (base : Heap) (Z : Am) (fA : Addr) (cdv : Value) (A0 : Around) (o0 : List Env) (s0 : Shared) (H0 : Hp) (E0 : XK) : Cx := cxOf (L2.CX Pg w) Pg w Z.K mg base N_32 "power" (defScope s_32) fA cdv A0 o0 s0 H0 E0
def m_power : SS := (seqS (exprS (callF true n_require_number [] (consA (var 0) nilA)))
  (seqS (exprS (callF true n_require_count [.int 0, .int 60] (consA (var 1) nilA)))
  (seqS (setS 2 (cst (.tup [.int 1, .int 1])))
  (seqS (forS (rngI1 (consA (var 1) nilA)) (nameG 3) (setS 2 (callF true n_multiplied [] (consA (var 2) (consA (var 0) nilA)))))
  (retS (var 2))))))
theorem b_32 (F : Facts Pg w mg base Z rt n) (fA : Addr) (cdv : Value) (A0 : Around) (o0 : List Env) (s0 : Shared) (H0 : Hp) (E0 : XK) (hr : RoomG (n + 3) (A0.deeper (envOfC "power" (defScope s_32) s0.heap.objs.size fA cdv))) :
    PSs (X_32 Pg w mg base Z fA cdv A0 o0 s0 H0 E0) (defBody s_32) (tS Z rt (fun cls d _ H' => E0 cls d H') m_power) := by
  have C3 : Ct (X_32 Pg w mg base Z fA cdv A0 o0 s0 H0 E0) Z (fun cls d _ H' => E0 cls d H') (n + 3) := ⟨rfl, rfl, sc_32.nd, hr, takes_of rfl rfl rfl rfl⟩
  have C : Ct (X_32 Pg w mg base Z fA cdv A0 o0 s0 H0 E0) Z (fun cls d _ H' => E0 cls d H') n := C3.mono (by omega)
  have po : PassesOwn (model Pg w) (A0.deeper (envOfC "power" (defScope s_32) s0.heap.objs.size fA cdv)) (envOfC "power" (defScope s_32) s0.heap.objs.size fA cdv) (X_32 Pg w mg base Z fA cdv A0 o0 s0 H0 E0).xe := passes_of (X := (X_32 Pg w mg base Z fA cdv A0 o0 s0 H0 E0)) rfl
  exact (pss_consS (ps_exprS (eFn true C F.c_require_number_1 L32_0_require_number Nm_require_number rfl (pa_consD rfl (eVar (i := 0) rfl (.inl L32_0_one) Nm_one) pa_nilD) (consA_len nilA_len) rfl) (eSet0 rfl))
  (pss_consS (ps_exprS (eFn true C F.c_require_count_1 L32_0_require_count Nm_require_count rfl (pa_consD rfl (eVar (i := 1) rfl (.inl L32_0_many) Nm_many) pa_nilD) (consA_len nilA_len) rfl) (eSet0 rfl))
  (pss_consS (ps_setS (i := 2) C.nd rfl (.inl L32_0_found) (.inl rfl) (eGlo F.g_ONE L32_0_ONE Nm_ONE) (eSet0 rfl))
  (pss_consS (ps_forS C.K po C.calm (iR1 L32_0_range F.b_range (pa_consD rfl (eVar (i := 1) rfl (.inl L32_0_many) Nm_many) pa_nilD) rfl) (pg_nameD C.nd rfl (.inl L32_0__) (.inl rfl)) (pss_oneS (ps_setS (i := 2) C.nd rfl (.inl L32_0_found) (.inl rfl) (eFn true C F.c_multiplied_2 L32_0_multiplied Nm_multiplied rfl (pa_consD rfl (eVar (i := 2) rfl (.inl L32_0_found) Nm_found) (pa_consD rfl (eVar (i := 0) rfl (.inl L32_0_one) Nm_one) pa_nilD)) (consA_len (consA_len nilA_len)) rfl) (eSet0 rfl))) (fold_of rfl))
  (pss_oneS (ps_retS (eVar (i := 2) rfl (.inl L32_0_found) Nm_found)))))))
/-! ### _law_dice -/
abbrev s_34 : Stmt := top 34
abbrev N_34 : List Str := ["script", "spot", "cell", "great", "seed"]
abbrev ps_34 : List Str := ["script", "spot"]
theorem sc_34 : FnScope N_34 ps_34 (defScope s_34) := ⟨rfl, rfl, rfl, by decide +kernel, rfl, by decide +kernel, by decide +kernel⟩
theorem L34_0_spot : ((defScope s_34)).names.lookup ("spot" : Str) = some NameKind.local := by kernel_rfl
theorem L34_0_script : ((defScope s_34)).names.lookup ("script" : Str) = some NameKind.local := by kernel_rfl
theorem L34_0_len : ((defScope s_34)).names.lookup ("len" : Str) = some NameKind.globalImplicit := by kernel_rfl
theorem L34_0_int : ((defScope s_34)).names.lookup ("int" : Str) = some NameKind.globalImplicit := by kernel_rfl
theorem L34_0_cell : ((defScope s_34)).names.lookup ("cell" : Str) = some NameKind.local := by kernel_rfl
theorem L34_0_abs : ((defScope s_34)).names.lookup ("abs" : Str) = some NameKind.globalImplicit := by kernel_rfl
theorem L34_0_great : ((defScope s_34)).names.lookup ("great" : Str) = some NameKind.local := by kernel_rfl
theorem L34_0_seed : ((defScope s_34)).names.lookup ("seed" : Str) = some NameKind.local := by kernel_rfl
theorem L34_0_max : ((defScope s_34)).names.lookup ("max" : Str) = some NameKind.globalImplicit := by kernel_rfl
abbrev X_34 (Pg : Program) (w : World) (mg : Str → Option Value) (base : Heap) (Z : Am) (fA : Addr) (cdv : Value) (A0 : Around) (o0 : List Env) (s0 : Shared) (H0 : Hp) (E0 : XK) : Cx := cxOf (L2.CX Pg w) Pg w Z.K mg base N_34 "_law_dice" (defScope s_34) fA cdv A0 o0 s0 H0 E0
def m__law_dice : SS := (seqS (setS 2 (ifE (truE (binE (cmpD .Lt) (var 1) (callB lenD (consA (var 0) nilA)))) (callB int1D (consA (binE idxD (var 0) (var 1)) nilA)) (binE (addD false) (binE (mulD false) (cst (.int 131)) (var 1)) (cst (.int 37)))))
  (seqS (setS 3 (binE modD (callB int1D (consA (callB absD (consA (var 2) nilA)) nilA)) (binE powD (binE powD (cst (.int 10)) (cst (.int 53))) (cst (.int 6)))))
  (seqS (setS 4 (binE (addD false) (binE (addD false) (binE (addD false) (binE (mulD false) (binE modD (var 3) (cst (.int 2305843009213693907))) (cst (.int 73))) (binE (mulD false) (cst (.int 619)) (var 1))) (binE (mulD false) (cst (.int 41)) (callB int1D (consA (binE (cmpD .Lt) (var 2) (cst (.int 0))) nilA)))) (cst (.int 17))))
  (retS (lstE true (consA (callB max2D (consA (cst (.int 0)) (consA (binE subD (var 3) (binE powD (cst (.int 10)) (cst (.int 16)))) nilA))) (consA (var 4) (consA (cst (.int 0)) nilA))))))))
theorem b_34 (F : Facts Pg w mg base Z rt n) (fA : Addr) (cdv : Value) (A0 : Around) (o0 : List Env) (s0 : Shared) (H0 : Hp) (E0 : XK) (hr : RoomG (n + 3) (A0.deeper (envOfC "_law_dice" (defScope s_34) s0.heap.objs.size fA cdv))) :
    PSs (X_34 Pg w mg base Z fA cdv A0 o0 s0 H0 E0) (defBody s_34) (tS Z rt (fun cls d _ H' => E0 cls d H') m__law_dice) := by
  have C3 : Ct (X_34 Pg w mg base Z fA cdv A0 o0 s0 H0 E0) Z (fun cls d _ H' => E0 cls d H') (n + 3) := ⟨rfl, rfl, sc_34.nd, hr, takes_of rfl rfl rfl rfl⟩
  have C : Ct (X_34 Pg w mg base Z fA cdv A0 o0 s0 H0 E0) Z (fun cls d _ H' => E0 cls d H') n := C3.mono (by omega)
  exact (pss_consS (ps_setS (i := 2) C.nd rfl (.inl L34_0_cell) (.inl rfl) (pv_if (tCp C .Lt (eVar (i := 1) rfl (.inl L34_0_spot) Nm_spot) (eB lenD_noX (cr_lenD C.K) L34_0_len F.b_len (by decide +kernel) Nm_len rfl (pa_consD rfl (eVar (i := 0) rfl (.inl L34_0_script) Nm_script) pa_nilD)) rfl) (eT int1D_noX cr_int1D L34_0_int F.b_int (by decide +kernel) Nm_int rfl (pa_consD rfl (eIdx C (eVar (i := 0) rfl (.inl L34_0_script) Nm_script) (eVar (i := 1) rfl (.inl L34_0_spot) Nm_spot) rfl) pa_nilD)) (eAdd C false (eMul C false pv_int (eVar (i := 1) rfl (.inl L34_0_spot) Nm_spot)) pv_int)) (eSet0 rfl))
  (pss_consS (ps_setS (i := 3) C.nd rfl (.inl L34_0_great) (.inl rfl) (eMod (eT int1D_noX cr_int1D L34_0_int F.b_int (by decide +kernel) Nm_int rfl (pa_consD rfl (eB absD_noX cr_absD L34_0_abs F.b_abs (by decide +kernel) Nm_abs rfl (pa_consD rfl (eVar (i := 2) rfl (.inl L34_0_cell) Nm_cell) pa_nilD)) pa_nilD)) (ePow (ePow pv_int pv_int) pv_int)) (eSet0 rfl))
  (pss_consS (ps_setS (i := 4) C.nd rfl (.inl L34_0_seed) (.inl rfl) (eAdd C false (eAdd C false (eAdd C false (eMul C false (eMod (eVar (i := 3) rfl (.inl L34_0_great) Nm_great) pv_int) pv_int) (eMul C false pv_int (eVar (i := 1) rfl (.inl L34_0_spot) Nm_spot))) (eMul C false pv_int (eT int1D_noX cr_int1D L34_0_int F.b_int (by decide +kernel) Nm_int rfl (pa_consD rfl (eCmp C .Lt (eVar (i := 2) rfl (.inl L34_0_cell) Nm_cell) pv_int rfl) pa_nilD)))) pv_int) (eSet0 rfl))
  (pss_oneS (ps_retS (eLst true (pa_consD rfl (eB max2D_noX (cr_max2D C.calm) L34_0_max F.b_max (by decide +kernel) Nm_max rfl (pa_consD rfl pv_int (pa_consD rfl (eSub (eVar (i := 3) rfl (.inl L34_0_great) Nm_great) (ePow pv_int pv_int)) pa_nilD))) (pa_consD rfl (eVar (i := 4) rfl (.inl L34_0_seed) Nm_seed) (pa_consD rfl pv_int pa_nilD)))))))))
/-! ### _law_roll -/
abbrev s_35 : Stmt := top 35
abbrev N_35 : List Str := ["dice", "many", "found", "one", "two"]
abbrev ps_35 : List Str := ["dice", "many"]
theorem sc_35 : FnScope N_35 ps_35 (defScope s_35) := ⟨rfl, rfl, rfl, by decide +kernel, rfl, by decide +kernel, by decide +kernel⟩
theorem L35_0_dice : ((defScope s_35)).names.lookup ("dice" : Str) = some NameKind.local := by kernel_rfl
theorem L35_0_many : ((defScope s_35)).names.lookup ("many" : Str) = some NameKind.local := by kernel_rfl
theorem L35_0_found : ((defScope s_35)).names.lookup ("found" : Str) = some NameKind.local := by kernel_rfl
theorem L35_0_int : ((defScope s_35)).names.lookup ("int" : Str) = some NameKind.globalImplicit := by kernel_rfl
theorem L35_0_one : ((defScope s_35)).names.lookup ("one" : Str) = some NameKind.local := by kernel_rfl
theorem L35_0_two : ((defScope s_35)).names.lookup ("two" : Str) = some NameKind.local := by kernel_rfl
abbrev X_35 (Pg : Program) (w : World) (mg : Str → Option Value) (base : Heap) (Z : Am) (fA : Addr) (cdv : Value) (A0 : Around) (o0 : List Env) (s0 : Shared) (H0 : Hp) (E0 : XK) : Cx := cxOf (L2.CX Pg w) Pg w Z.K mg base N_35 "_law_roll" (defScope s_35) fA cdv A0 o0 s0 H0 E0
def m__law_roll : SS := (seqS (ifS (truE (binE (cmpD .Gt) (binE idxD (var 0) (cst (.int 0))) (cst (.int 0)))) (seqS (setS 2 (binE modD (binE idxD (var 0) (cst (.int 0))) (var 1)))
  (seqS (setSubS (var 0) (cst (.int 0)) (binE fdivD (binE idxD (var 0) (cst (.int 0))) (var 1)))
  (retS (callB int1D (consA (var 2) nilA))))) nilS)
  (seqS (setSubS (var 0) (cst (.int 2)) (binE (addD false) (binE idxD (var 0) (cst (.int 2))) (cst (.int 1))))
  (seqS (setS 3 (binE modD (binE (addD false) (binE idxD (var 0) (cst (.int 1))) (binE (mulD false) (cst (.int 49979687)) (binE idxD (var 0) (cst (.int 2))))) (cst (.int 2305843009213693951))))
  (seqS (setS 4 (binE (addD false) (binE (mulD false) (binE modD (binE (addD false) (binE (mulD false) (var 3) (var 3)) (binE (mulD false) (cst (.int 131)) (binE idxD (var 0) (cst (.int 2))))) (cst (.int 2305843009213693921))) (cst (.int 32452843))) (var 3)))
  (retS (binE modD (callB int1D (consA (binE fdivD (var 4) (cst (.int 65587))) nilA)) (var 1)))))))
theorem b_35 (F : Facts Pg w mg base Z rt n) (fA : Addr) (cdv : Value) (A0 : Around) (o0 : List Env) (s0 : Shared) (H0 : Hp) (E0 : XK) (hr : RoomG (n + 3) (A0.deeper (envOfC "_law_roll" (defScope s_35) s0.heap.objs.size fA cdv))) :
    PSs (X_35 Pg w mg base Z fA cdv A0 o0 s0 H0 E0) (defBody s_35) (tS Z rt (fun cls d _ H' => E0 cls d H') m__law_roll) := by
  have C3 : Ct (X_35 Pg w mg base Z fA cdv A0 o0 s0 H0 E0) Z (fun cls d _ H' => E0 cls d H') (n + 3) := ⟨rfl, rfl, sc_35.nd, hr, takes_of rfl rfl rfl rfl⟩
  have C : Ct (X_35 Pg w mg base Z fA cdv A0 o0 s0 H0 E0) Z (fun cls d _ H' => E0 cls d H') n := C3.mono (by omega)
  exact (pss_consS (ps_ifS (tCp C .Gt (eIdx C (eVar (i := 0) rfl (.inl L35_0_dice) Nm_dice) pv_int rfl) pv_int rfl) (pss_consS (ps_setS (i := 2) C.nd rfl (.inl L35_0_found) (.inl rfl) (eMod (eIdx C (eVar (i := 0) rfl (.inl L35_0_dice) Nm_dice) pv_int rfl) (eVar (i := 1) rfl (.inl L35_0_many) Nm_many)) (eSet0 rfl))
  (pss_consS (ps_setSub rfl rfl (eFdiv (eIdx C (eVar (i := 0) rfl (.inl L35_0_dice) Nm_dice) pv_int rfl) (eVar (i := 1) rfl (.inl L35_0_many) Nm_many)) (eVar (i := 0) rfl (.inl L35_0_dice) Nm_dice) pv_int)
  (pss_oneS (ps_retS (eT int1D_noX cr_int1D L35_0_int F.b_int (by decide +kernel) Nm_int rfl (pa_consD rfl (eVar (i := 2) rfl (.inl L35_0_found) Nm_found) pa_nilD)))))) pss_nilS)
  (pss_consS (ps_setSub rfl rfl (eAdd C false (eIdx C (eVar (i := 0) rfl (.inl L35_0_dice) Nm_dice) pv_int rfl) pv_int) (eVar (i := 0) rfl (.inl L35_0_dice) Nm_dice) pv_int)
  (pss_consS (ps_setS (i := 3) C.nd rfl (.inl L35_0_one) (.inl rfl) (eMod (eAdd C false (eIdx C (eVar (i := 0) rfl (.inl L35_0_dice) Nm_dice) pv_int rfl) (eMul C false pv_int (eIdx C (eVar (i := 0) rfl (.inl L35_0_dice) Nm_dice) pv_int rfl))) pv_int) (eSet0 rfl))
  (pss_consS (ps_setS (i := 4) C.nd rfl (.inl L35_0_two) (.inl rfl) (eAdd C false (eMul C false (eMod (eAdd C false (eMul C false (eVar (i := 3) rfl (.inl L35_0_one) Nm_one) (eVar (i := 3) rfl (.inl L35_0_one) Nm_one)) (eMul C false pv_int (eIdx C (eVar (i := 0) rfl (.inl L35_0_dice) Nm_dice) pv_int rfl))) pv_int) pv_int) (eVar (i := 3) rfl (.inl L35_0_one) Nm_one)) (eSet0 rfl))
  (pss_oneS (ps_retS (eMod (eT int1D_noX cr_int1D L35_0_int F.b_int (by decide +kernel) Nm_int rfl (pa_consD rfl (eFdiv (eVar (i := 4) rfl (.inl L35_0_two) Nm_two) pv_int) pa_nilD)) (eVar (i := 1) rfl (.inl L35_0_many) Nm_many))))))))
/-! ### _law_pick -/
abbrev s_36 : Stmt := top 36
abbrev N_36 : List Str := ["dice", "items"]
abbrev ps_36 : List Str := ["dice", "items"]
theorem sc_36 : FnScope N_36 ps_36 (defScope s_36) := ⟨rfl, rfl, rfl, by decide +kernel, rfl, by decide +kernel, by decide +kernel⟩
theorem L36_0_items : ((defScope s_36)).names.lookup ("items" : Str) = some NameKind.local := by kernel_rfl
theorem L36_0_len : ((defScope s_36)).names.lookup ("len" : Str) = some NameKind.globalImplicit := by kernel_rfl
theorem L36_0_dice : ((defScope s_36)).names.lookup ("dice" : Str) = some NameKind.local := by kernel_rfl
theorem L36_0__law_roll : ((defScope s_36)).names.lookup ("_law_roll" : Str) = some NameKind.globalImplicit := by kernel_rfl
abbrev X_36 (Pg : Program) (w : World) (mg : Str → Option Value) (base : Heap) (Z : Am) (fA : Addr) (cdv : Value) (A0 : Around) (o0 : List Env) (s0 : Shared) (H0 : Hp) (E0 : XK) : Cx := cxOf (L2.CX Pg w) Pg w Z.K mg base N_36 "_law_pick" (defScope s_36) fA cdv A0 o0 s0 H0 E0
def m__law_pick : SS := (retS (binE idxD (var 1) (callF false n__law_roll [] (consA (var 0) (consA (callB lenD (consA (var 1) nilA)) nilA)))))
theorem b_36 (F : Facts Pg w mg base Z rt n) (fA : Addr) (cdv : Value) (A0 : Around) (o0 : List Env) (s0 : Shared) (H0 : Hp) (E0 : XK) (hr : RoomG (n + 3) (A0.deeper (envOfC "_law_pick" (defScope s_36) s0.heap.objs.size fA cdv))) :
    PSs (X_36 Pg w mg base Z fA cdv A0 o0 s0 H0 E0) (defBody s_36) (tS Z rt (fun cls d _ H' => E0 cls d H') m__law_pick) := by
  have C3 : Ct (X_36 Pg w mg base Z fA cdv A0 o0 s0 H0 E0) Z (fun cls d _ H' => E0 cls d H') (n + 3) := ⟨rfl, rfl, sc_36.nd, hr, takes_of rfl rfl rfl rfl⟩
  have C : Ct (X_36 Pg w mg base Z fA cdv A0 o0 s0 H0 E0) Z (fun cls d _ H' => E0 cls d H') n := C3.mono (by omega)
  exact (pss_oneS (ps_retS (eIdx C (eVar (i := 1) rfl (.inl L36_0_items) Nm_items) (eFn false C F.c__law_roll_2 L36_0__law_roll Nm__law_roll rfl (pa_consD rfl (eVar (i := 0) rfl (.inl L36_0_dice) Nm_dice) (pa_consD rfl (eB lenD_noX (cr_lenD C.K) L36_0_len F.b_len (by decide +kernel) Nm_len rfl (pa_consD rfl (eVar (i := 1) rfl (.inl L36_0_items) Nm_items) pa_nilD)) pa_nilD)) (consA_len (consA_len nilA_len)) rfl) rfl)))
/-! ### _law_fr -/
abbrev s_37 : Stmt := top 37
abbrev N_37 : List Str := ["top", "bottom", "one", "other", "sign"]
abbrev ps_37 : List Str := ["top", "bottom"]
theorem sc_37 : FnScope N_37 ps_37 (defScope s_37) := ⟨rfl, rfl, rfl, by decide +kernel, rfl, by decide +kernel, by decide +kernel⟩
theorem L37_0_bottom : ((defScope s_37)).names.lookup ("bottom" : Str) = some NameKind.local := by kernel_rfl
theorem L37_0_abs : ((defScope s_37)).names.lookup ("abs" : Str) = some NameKind.globalImplicit := by kernel_rfl
theorem L37_0_top : ((defScope s_37)).names.lookup ("top" : Str) = some NameKind.local := by kernel_rfl
theorem L37_0_one : ((defScope s_37)).names.lookup ("one" : Str) = some NameKind.local := by kernel_rfl
theorem L37_0_other : ((defScope s_37)).names.lookup ("other" : Str) = some NameKind.local := by kernel_rfl
theorem L37_0_sign : ((defScope s_37)).names.lookup ("sign" : Str) = some NameKind.local := by kernel_rfl
abbrev X_37 (Pg : Program) (w : World) (mg : Str → Option Value) (base : Heap) (Z : Am) (fA : Addr) (cdv : Value) (A0 : Around) (o0 : List Env) (s0 : Shared) (H0 : Hp) (E0 : XK) : Cx := cxOf (L2.CX Pg w) Pg w Z.K mg base N_37 "_law_fr" (defScope s_37) fA cdv A0 o0 s0 H0 E0
def m__law_fr : SS := (seqS (parS 2 3 (consA (callB absD (consA (var 0) nilA)) (consA (callB absD (consA (var 1) nilA)) nilA)))
  (seqS (whileS (truE (binE (cmpD .Gt) (var 3) (cst (.int 0)))) (parS 2 3 (consA (var 3) (consA (binE modD (var 2) (var 3)) nilA))))
  (seqS (setS 4 (ifE (truE (binE (cmpD .Lt) (var 1) (cst (.int 0)))) (unE negD (cst (.int 1))) (cst (.int 1))))
  (retS (tupE (consA (binE fdivD (binE (mulD false) (var 4) (var 0)) (var 2)) (consA (binE fdivD (binE (mulD false) (var 4) (var 1)) (var 2)) nilA)))))))
theorem b_37 (F : Facts Pg w mg base Z rt n) (fA : Addr) (cdv : Value) (A0 : Around) (o0 : List Env) (s0 : Shared) (H0 : Hp) (E0 : XK) (hr : RoomG (n + 3) (A0.deeper (envOfC "_law_fr" (defScope s_37) s0.heap.objs.size fA cdv))) :
    PSs (X_37 Pg w mg base Z fA cdv A0 o0 s0 H0 E0) (defBody s_37) (tS Z rt (fun cls d _ H' => E0 cls d H') m__law_fr) := by
  have C3 : Ct (X_37 Pg w mg base Z fA cdv A0 o0 s0 H0 E0) Z (fun cls d _ H' => E0 cls d H') (n + 3) := ⟨rfl, rfl, sc_37.nd, hr, takes_of rfl rfl rfl rfl⟩
  have C : Ct (X_37 Pg w mg base Z fA cdv A0 o0 s0 H0 E0) Z (fun cls d _ H' => E0 cls d H') n := C3.mono (by omega)
  have po : PassesOwn (model Pg w) (A0.deeper (envOfC "_law_fr" (defScope s_37) s0.heap.objs.size fA cdv)) (envOfC "_law_fr" (defScope s_37) s0.heap.objs.size fA cdv) (X_37 Pg w mg base Z fA cdv A0 o0 s0 H0 E0).xe := passes_of (X := (X_37 Pg w mg base Z fA cdv A0 o0 s0 H0 E0)) rfl
  exact (pss_consS (ps_parS (i := 2) (j := 3) C.calm C.nd rfl rfl (by decide) L37_0_one L37_0_other (pa_consD rfl (eB absD_noX cr_absD L37_0_abs F.b_abs (by decide +kernel) Nm_abs rfl (pa_consD rfl (eVar (i := 0) rfl (.inl L37_0_top) Nm_top) pa_nilD)) (pa_consD rfl (eB absD_noX cr_absD L37_0_abs F.b_abs (by decide +kernel) Nm_abs rfl (pa_consD rfl (eVar (i := 1) rfl (.inl L37_0_bottom) Nm_bottom) pa_nilD)) pa_nilD)) (by kernel_rfl))
  (pss_consS (ps_whileS po (tCp C .Gt (eVar (i := 3) rfl (.inl L37_0_other) Nm_other) pv_int rfl) (pss_oneS (ps_parS (i := 2) (j := 3) C.calm C.nd rfl rfl (by decide) L37_0_one L37_0_other (pa_consD rfl (eVar (i := 3) rfl (.inl L37_0_other) Nm_other) (pa_consD rfl (eMod (eVar (i := 2) rfl (.inl L37_0_one) Nm_one) (eVar (i := 3) rfl (.inl L37_0_other) Nm_other)) pa_nilD)) (by kernel_rfl))))
  (pss_consS (ps_setS (i := 4) C.nd rfl (.inl L37_0_sign) (.inl rfl) (pv_if (tCp C .Lt (eVar (i := 1) rfl (.inl L37_0_bottom) Nm_bottom) pv_int rfl) (eNeg pv_int) pv_int) (eSet0 rfl))
  (pss_oneS (ps_retS (eTup (pa_consD rfl (eFdiv (eMul C false (eVar (i := 4) rfl (.inl L37_0_sign) Nm_sign) (eVar (i := 0) rfl (.inl L37_0_top) Nm_top)) (eVar (i := 2) rfl (.inl L37_0_one) Nm_one)) (pa_consD rfl (eFdiv (eMul C false (eVar (i := 4) rfl (.inl L37_0_sign) Nm_sign) (eVar (i := 1) rfl (.inl L37_0_bottom) Nm_bottom)) (eVar (i := 2) rfl (.inl L37_0_one) Nm_one)) pa_nilD))))))))
/-! ### _law_is_number -/
abbrev s_38 : Stmt := top 38
abbrev N_38 : List Str := ["value", "one"]
abbrev ps_38 : List Str := ["value"]
theorem sc_38 : FnScope N_38 ps_38 (defScope s_38) := ⟨rfl, rfl, rfl, by decide +kernel, rfl, by decide +kernel, by decide +kernel⟩
abbrev cs38_0 : Scope := ⟨.function, [(".0", .local), ("one", .local), ("isinstance", .globalImplicit), ("int", .globalImplicit), ("bool", .globalImplicit)], false, false, []⟩
theorem L38_0_value : ((defScope s_38)).names.lookup ("value" : Str) = some NameKind.local := by kernel_rfl
theorem L38_0_isinstance : ((defScope s_38)).names.lookup ("isinstance" : Str) = some NameKind.globalImplicit := by kernel_rfl
theorem L38_0_tuple : ((defScope s_38)).names.lookup ("tuple" : Str) = some NameKind.globalImplicit := by kernel_rfl
theorem L38_0_len : ((defScope s_38)).names.lookup ("len" : Str) = some NameKind.globalImplicit := by kernel_rfl
theorem L38_1_one : (relS cs38_0 (defScope s_38)).names.lookup ("one" : Str) = some NameKind.local := by kernel_rfl
theorem L38_1_isinstance : (relS cs38_0 (defScope s_38)).names.lookup ("isinstance" : Str) = some NameKind.globalImplicit := by kernel_rfl
theorem L38_1_int : (relS cs38_0 (defScope s_38)).names.lookup ("int" : Str) = some NameKind.globalImplicit := by kernel_rfl
theorem L38_1_bool : (relS cs38_0 (defScope s_38)).names.lookup ("bool" : Str) = some NameKind.globalImplicit := by kernel_rfl
theorem bk38_0 : BlkOk N_38 ((defScope s_38)) cs38_0 [("one", 1)] := blkOk_by (by decide +kernel)
theorem L38_0__law_fr : ((defScope s_38)).names.lookup ("_law_fr" : Str) = some NameKind.globalImplicit := by kernel_rfl
abbrev X_38 (Pg : Program) (w : World) (mg : Str → Option Value) (base : Heap) (Z : Am) (fA : Addr) (cdv : Value) (A0 : Around) (o0 : List Env) (s0 : Shared) (H0 : Hp) (E0 : XK) : Cx := cxOf (L2.CX Pg w) Pg w Z.K mg base N_38 "_law_is_number" (defScope s_38) fA cdv A0 o0 s0 H0 E0
def m__law_is_number : SS := (seqS (ifS (orT (notT (truE (unE (isiD .tuple) (var 0)))) (truE (binE (cmpD .NotEq) (callB lenD (consA (var 0) nilA)) (cst (.int 2))))) (retS (cst (.bl false))) nilS)
  (seqS (ifS (truE (binE (cmpD .NotEq) (lcE false [1] (valI (var 0)) (nameG 1) (orT (notT (truE (unE (isiD .int) (var 1)))) (truE (unE (isiD .bool) (var 1)))) (cst (.int 1))) (lstE false nilA))) (retS (cst (.bl false))) nilS)
  (retS (andE (binE (cmpD .GtE) (binE idxD (var 0) (cst (.int 1))) (cst (.int 1))) (binE (cmpD .Eq) (callF true n__law_fr [] (consA (binE idxD (var 0) (cst (.int 0))) (consA (binE idxD (var 0) (cst (.int 1))) nilA))) (var 0))))))
theorem b_38 (F : Facts Pg w mg base Z rt n) (fA : Addr) (cdv : Value) (A0 : Around) (o0 : List Env) (s0 : Shared) (H0 : Hp) (E0 : XK) (hr : RoomG (n + 3) (A0.deeper (envOfC "_law_is_number" (defScope s_38) s0.heap.objs.size fA cdv))) :
    PSs (X_38 Pg w mg base Z fA cdv A0 o0 s0 H0 E0) (defBody s_38) (tS Z rt (fun cls d _ H' => E0 cls d H') m__law_is_number) := by
  have C3 : Ct (X_38 Pg w mg base Z fA cdv A0 o0 s0 H0 E0) Z (fun cls d _ H' => E0 cls d H') (n + 3) := ⟨rfl, rfl, sc_38.nd, hr, takes_of rfl rfl rfl rfl⟩
  have C : Ct (X_38 Pg w mg base Z fA cdv A0 o0 s0 H0 E0) Z (fun cls d _ H' => E0 cls d H') n := C3.mono (by omega)
  exact (pss_consS (ps_ifS (PW.pt (pw_orD (pt_notD (tPl C rfl (eIsi C .tuple L38_0_isinstance F.b_isinstance L38_0_tuple F.b_tuple (by decide +kernel) Nm_tuple rfl (eVar (i := 0) rfl (.inl L38_0_value) Nm_value)))) (pw_or1D (tCp C .NotEq (eB lenD_noX (cr_lenD C.K) L38_0_len F.b_len (by decide +kernel) Nm_len rfl (pa_consD rfl (eVar (i := 0) rfl (.inl L38_0_value) Nm_value) pa_nilD)) pv_int rfl)))) (pss_oneS (ps_retS pv_bl)) pss_nilS)
  (pss_consS (ps_ifS (tCp C .NotEq (pv_lc (mk := false) (own := [("one", 1)]) C.calm C.nd (by decide) (iVl C (eVar (i := 0) rfl (.inl L38_0_value) Nm_value)) bk38_0 (fun _ _ _ _ _ => (pg_nameD (C.blk _ _ _ _ _).nd rfl (.inl L38_1_one) (.inr L38_1_one))) (fun _ _ _ _ _ => (pts_one (PW.pt (pw_orD (pt_notD (tPl (C.blk _ _ _ _ _) rfl (eIsi (C.blk _ _ _ _ _) .int L38_1_isinstance F.b_isinstance L38_1_int F.b_int (by decide +kernel) Nm_int rfl (eVar (i := 1) rfl (.inl L38_1_one) Nm_one)))) (pw_or1D (tPl (C.blk _ _ _ _ _) rfl (eIsi (C.blk _ _ _ _ _) .bool L38_1_isinstance F.b_isinstance L38_1_bool F.b_bool (by decide +kernel) Nm_bool rfl (eVar (i := 1) rfl (.inl L38_1_one) Nm_one)))))))) (fun _ _ _ _ _ => pv_int) (fold_of rfl)) (eLst false pa_nilD) rfl) (pss_oneS (ps_retS pv_bl)) pss_nilS)
  (pss_oneS (ps_retS (eAnd C (eCmp C .GtE (eIdx C (eVar (i := 0) rfl (.inl L38_0_value) Nm_value) pv_int rfl) pv_int rfl) (pv_one (eCmp C .Eq (eFn true C F.c__law_fr_2 L38_0__law_fr Nm__law_fr rfl (pa_consD rfl (eIdx C (eVar (i := 0) rfl (.inl L38_0_value) Nm_value) pv_int rfl) (pa_consD rfl (eIdx C (eVar (i := 0) rfl (.inl L38_0_value) Nm_value) pv_int rfl) pa_nilD)) (consA_len (consA_len nilA_len)) rfl) (eVar (i := 0) rfl (.inl L38_0_value) Nm_value) rfl)))))))
/-! ### _law_is_name -/
abbrev s_40 : Stmt := top 40
abbrev N_40 : List Str := ["value", "sign"]
abbrev ps_40 : List Str := ["value"]
theorem sc_40 : FnScope N_40 ps_40 (defScope s_40) := ⟨rfl, rfl, rfl, by decide +kernel, rfl, by decide +kernel, by decide +kernel⟩
abbrev cs40_0 : Scope := ⟨.function, [(".0", .local), ("sign", .local)], false, false, []⟩
theorem L40_0_value : ((defScope s_40)).names.lookup ("value" : Str) = some NameKind.local := by kernel_rfl
theorem L40_0_isinstance : ((defScope s_40)).names.lookup ("isinstance" : Str) = some NameKind.globalImplicit := by kernel_rfl
theorem L40_0_str : ((defScope s_40)).names.lookup ("str" : Str) = some NameKind.globalImplicit := by kernel_rfl
theorem L40_0_len : ((defScope s_40)).names.lookup ("len" : Str) = some NameKind.globalImplicit := by kernel_rfl
theorem L40_1_sign : (relS cs40_0 (defScope s_40)).names.lookup ("sign" : Str) = some NameKind.local := by kernel_rfl
theorem bk40_0 : BlkOk N_40 ((defScope s_40)) cs40_0 [("sign", 1)] := blkOk_by (by decide +kernel)
abbrev X_40 (Pg : Program) (w : World) (mg : Str → Option Value) (base : Heap) (Z : Am) (fA : Addr) (cdv : Value) (A0 : Around) (o0 : List Env) (s0 : Shared) (H0 : Hp) (E0 : XK) : Cx := cxOf (L2.CX Pg w) Pg w Z.K mg base N_40 "_law_is_name" (defScope s_40) fA cdv A0 o0 s0 H0 E0
def m__law_is_name : SS := (seqS (ifS (orT (notT (truE (unE (isiD .str) (var 0)))) (orT (notT (truE (chainE (cmpD .LtE) (cmpD .LtE) (cst (.int 1)) (callB lenD (consA (var 0) nilA)) (cst (.int 12))))) (notT (truE (chainE (cmpD .LtE) (cmpD .LtE) (cst (.str [97])) (binE idxD (var 0) (cst (.int 0))) (cst (.str [122]))))))) (retS (cst (.bl false))) nilS)
  (retS (binE (cmpD .Eq) (lcE false [1] (valI (var 0)) (nameG 1) (truE (binE (cmpD .NotIn) (var 1) (cst (.str [97, 98, 99, 100, 101, 102, 103, 104, 105, 106, 107, 108, 109, 110, 111, 112, 113, 114, 115, 116, 117, 118, 119, 120, 121, 122, 48, 49, 50, 51, 52, 53, 54, 55, 56, 57, 46])))) (var 1)) (lstE false nilA))))
theorem b_40 (F : Facts Pg w mg base Z rt n) (fA : Addr) (cdv : Value) (A0 : Around) (o0 : List Env) (s0 : Shared) (H0 : Hp) (E0 : XK) (hr : RoomG (n + 3) (A0.deeper (envOfC "_law_is_name" (defScope s_40) s0.heap.objs.size fA cdv))) :
    PSs (X_40 Pg w mg base Z fA cdv A0 o0 s0 H0 E0) (defBody s_40) (tS Z rt (fun cls d _ H' => E0 cls d H') m__law_is_name) := by
  have C3 : Ct (X_40 Pg w mg base Z fA cdv A0 o0 s0 H0 E0) Z (fun cls d _ H' => E0 cls d H') (n + 3) := ⟨rfl, rfl, sc_40.nd, hr, takes_of rfl rfl rfl rfl⟩
  have C : Ct (X_40 Pg w mg base Z fA cdv A0 o0 s0 H0 E0) Z (fun cls d _ H' => E0 cls d H') n := C3.mono (by omega)
  exact (pss_consS (ps_ifS (PW.pt (pw_orD (pt_notD (tPl C rfl (eIsi C .str L40_0_isinstance F.b_isinstance L40_0_str F.b_str (by decide +kernel) Nm_str rfl (eVar (i := 0) rfl (.inl L40_0_value) Nm_value)))) (pw_orD (pt_notD (tCp2 C .LtE .LtE pv_int (eB lenD_noX (cr_lenD C.K) L40_0_len F.b_len (by decide +kernel) Nm_len rfl (pa_consD rfl (eVar (i := 0) rfl (.inl L40_0_value) Nm_value) pa_nilD)) pv_int rfl)) (pw_or1D (pt_notD (tCp2 C .LtE .LtE (eStr (by decide +kernel)) (eIdx C (eVar (i := 0) rfl (.inl L40_0_value) Nm_value) pv_int rfl) (eStr (by decide +kernel)) rfl)))))) (pss_oneS (ps_retS pv_bl)) pss_nilS)
  (pss_oneS (ps_retS (eCmp C .Eq (pv_lc (mk := false) (own := [("sign", 1)]) C.calm C.nd (by decide) (iVl C (eVar (i := 0) rfl (.inl L40_0_value) Nm_value)) bk40_0 (fun _ _ _ _ _ => (pg_nameD (C.blk _ _ _ _ _).nd rfl (.inl L40_1_sign) (.inr L40_1_sign))) (fun _ _ _ _ _ => (pts_one (tCp (C.blk _ _ _ _ _) .NotIn (eVar (i := 1) rfl (.inl L40_1_sign) Nm_sign) (eStr (by decide +kernel)) rfl))) (fun _ _ _ _ _ => (eVar (i := 1) rfl (.inl L40_1_sign) Nm_sign)) (fold_of rfl)) (eLst false pa_nilD) rfl))))
/-! ### _law_some -/
abbrev s_41 : Stmt := top 41
abbrev N_41 : List Str := ["dice", "some"]
abbrev ps_41 : List Str := ["dice"]
theorem sc_41 : FnScope N_41 ps_41 (defScope s_41) := ⟨rfl, rfl, rfl, by decide +kernel, rfl, by decide +kernel, by decide +kernel⟩
theorem L41_0_some : ((defScope s_41)).names.lookup ("some" : Str) = some NameKind.local := by kernel_rfl
theorem L41_0_dice : ((defScope s_41)).names.lookup ("dice" : Str) = some NameKind.local := by kernel_rfl
theorem L41_0__law_pick : ((defScope s_41)).names.lookup ("_law_pick" : Str) = some NameKind.globalImplicit := by kernel_rfl
abbrev X_41 (Pg : Program) (w : World) (mg : Str → Option Value) (base : Heap) (Z : Am) (fA : Addr) (cdv : Value) (A0 : Around) (o0 : List Env) (s0 : Shared) (H0 : Hp) (E0 : XK) : Cx := cxOf (L2.CX Pg w) Pg w Z.K mg base N_41 "_law_some" (defScope s_41) fA cdv A0 o0 s0 H0 E0
def m__law_some : SS := (seqS (setS 1 (lstE false (consA (cst .non) (consA (cst (.bl true)) (consA (cst (.bl false)) (consA (cst (.int 0)) (consA (cst (.int 1)) (consA (unE negD (cst (.int 3))) (consA (binE powD (cst (.int 10)) (cst (.int 39))) (consA (cst (.str [97])) (consA (cst (.str [])) (consA (cst (.str [117, 112, 46, 50])) (consA (cst (.str [50, 117, 112])) (consA (cst (.str [85, 112])) (consA (cst (.str [97, 32, 98])) (consA (cst (.str [97, 98, 99, 100, 101, 102, 103, 104, 105, 106, 107, 108])) (consA (cst (.str [97, 98, 99, 100, 101, 102, 103, 104, 105, 106, 107, 108, 109])) nilA)))))))))))))))))
  (seqS (setS 1 (binE (addD false) (var 1) (lstE false (consA (tupE nilA) (consA (tupE (consA (cst (.int 0)) (consA (cst (.int 1)) nilA))) (consA (tupE (consA (cst (.int 1)) (consA (cst (.int 1)) nilA))) (consA (tupE (consA (cst (.int 2)) (consA (cst (.int 4)) nilA))) (consA (tupE (consA (cst (.int 0)) (consA (cst (.int 2)) nilA))) (consA (tupE (consA (cst (.int 1)) (consA (cst (.int 0)) nilA))) (consA (tupE (consA (cst (.int 1)) (consA (unE negD (cst (.int 2))) nilA))) (consA (tupE (consA (unE negD (cst (.int 1))) (consA (cst (.int 2)) nilA))) (consA (tupE (consA (cst (.bl true)) (consA (cst (.int 1)) nilA))) (consA (tupE (consA (cst (.int 1)) (consA (cst (.bl true)) nilA))) (consA (lstE false (consA (cst (.int 1)) (consA (cst (.int 2)) nilA))) (consA (tupE (consA (cst (.int 1)) nilA)) nilA)))))))))))))))
  (seqS (setS 1 (binE (addD false) (var 1) (lstE false (consA (tupE (consA (cst (.int 1)) (consA (cst (.int 2)) (consA (cst (.int 3)) nilA)))) (consA (tupE (consA (binE (addD false) (binE powD (cst (.int 10)) (cst (.int 39))) (cst (.int 1))) (consA (binE powD (cst (.int 10)) (cst (.int 39))) nilA))) (consA (tupE (consA (tupE (consA (cst (.int 1)) (consA (cst (.int 1)) nilA))) (consA (cst (.int 1)) nilA))) (consA (tupE (consA (cst (.str [49])) (consA (cst (.int 1)) nilA))) (consA (tupE (consA (cst .non) (consA (cst (.int 1)) nilA))) (consA (cst (.str [49, 47, 50])) (consA (cst (.dic [] [])) (consA (cst (.dic [keyP (.inl 1)] [.int 2])) (consA (cst (.str [46, 97])) (consA (cst (.str [97, 46])) nilA)))))))))))))
  (retS (callF false n__law_pick [] (consA (var 0) (consA (var 1) nilA)))))))
theorem b_41 (F : Facts Pg w mg base Z rt n) (fA : Addr) (cdv : Value) (A0 : Around) (o0 : List Env) (s0 : Shared) (H0 : Hp) (E0 : XK) (hr : RoomG (n + 3) (A0.deeper (envOfC "_law_some" (defScope s_41) s0.heap.objs.size fA cdv))) :
    PSs (X_41 Pg w mg base Z fA cdv A0 o0 s0 H0 E0) (defBody s_41) (tS Z rt (fun cls d _ H' => E0 cls d H') m__law_some) := by
  have C3 : Ct (X_41 Pg w mg base Z fA cdv A0 o0 s0 H0 E0) Z (fun cls d _ H' => E0 cls d H') (n + 3) := ⟨rfl, rfl, sc_41.nd, hr, takes_of rfl rfl rfl rfl⟩
  have C : Ct (X_41 Pg w mg base Z fA cdv A0 o0 s0 H0 E0) Z (fun cls d _ H' => E0 cls d H') n := C3.mono (by omega)
  exact (pss_consS (ps_setS (i := 1) C.nd rfl (.inl L41_0_some) (.inl rfl) (eLst false (pa_consD rfl pv_non (pa_consD rfl pv_bl (pa_consD rfl pv_bl (pa_consD rfl pv_int (pa_consD rfl pv_int (pa_consD rfl (eNeg pv_int) (pa_consD rfl (ePow pv_int pv_int) (pa_consD rfl (eStr (by decide +kernel)) (pa_consD rfl (eStr (by decide +kernel)) (pa_consD rfl (eStr (by decide +kernel)) (pa_consD rfl (eStr (by decide +kernel)) (pa_consD rfl (eStr (by decide +kernel)) (pa_consD rfl (eStr (by decide +kernel)) (pa_consD rfl (eStr (by decide +kernel)) (pa_consD rfl (eStr (by decide +kernel)) pa_nilD)))))))))))))))) (eSet0 rfl))
  (pss_consS (ps_setS (i := 1) C.nd rfl (.inl L41_0_some) (.inl rfl) (eAdd C false (eVar (i := 1) rfl (.inl L41_0_some) Nm_some) (eLst false (pa_consD rfl (eTup pa_nilD) (pa_consD rfl (eTup (pa_consD rfl pv_int (pa_consD rfl pv_int pa_nilD))) (pa_consD rfl (eTup (pa_consD rfl pv_int (pa_consD rfl pv_int pa_nilD))) (pa_consD rfl (eTup (pa_consD rfl pv_int (pa_consD rfl pv_int pa_nilD))) (pa_consD rfl (eTup (pa_consD rfl pv_int (pa_consD rfl pv_int pa_nilD))) (pa_consD rfl (eTup (pa_consD rfl pv_int (pa_consD rfl pv_int pa_nilD))) (pa_consD rfl (eTup (pa_consD rfl pv_int (pa_consD rfl (eNeg pv_int) pa_nilD))) (pa_consD rfl (eTup (pa_consD rfl (eNeg pv_int) (pa_consD rfl pv_int pa_nilD))) (pa_consD rfl (eTup (pa_consD rfl pv_bl (pa_consD rfl pv_int pa_nilD))) (pa_consD rfl (eTup (pa_consD rfl pv_int (pa_consD rfl pv_bl pa_nilD))) (pa_consD rfl (eLst false (pa_consD rfl pv_int (pa_consD rfl pv_int pa_nilD))) (pa_consD rfl (eTup (pa_consD rfl pv_int pa_nilD)) pa_nilD)))))))))))))) (eSet0 rfl))
  (pss_consS (ps_setS (i := 1) C.nd rfl (.inl L41_0_some) (.inl rfl) (eAdd C false (eVar (i := 1) rfl (.inl L41_0_some) Nm_some) (eLst false (pa_consD rfl (eTup (pa_consD rfl pv_int (pa_consD rfl pv_int (pa_consD rfl pv_int pa_nilD)))) (pa_consD rfl (eTup (pa_consD rfl (eAdd C false (ePow pv_int pv_int) pv_int) (pa_consD rfl (ePow pv_int pv_int) pa_nilD))) (pa_consD rfl (eTup (pa_consD rfl (eTup (pa_consD rfl pv_int (pa_consD rfl pv_int pa_nilD))) (pa_consD rfl pv_int pa_nilD))) (pa_consD rfl (eTup (pa_consD rfl (eStr (by decide +kernel)) (pa_consD rfl pv_int pa_nilD))) (pa_consD rfl (eTup (pa_consD rfl pv_non (pa_consD rfl pv_int pa_nilD))) (pa_consD rfl (eStr (by decide +kernel)) (pa_consD rfl pv_dic0 (pa_consD rfl (pv_dic1 (k := (.inl 1)) pe_int pe_int (fun _ => rInt)) (pa_consD rfl (eStr (by decide +kernel)) (pa_consD rfl (eStr (by decide +kernel)) pa_nilD)))))))))))) (eSet0 rfl))
  (pss_oneS (ps_retS (eFn false C F.c__law_pick_2 L41_0__law_pick Nm__law_pick rfl (pa_consD rfl (eVar (i := 0) rfl (.inl L41_0_dice) Nm_dice) (pa_consD rfl (eVar (i := 1) rfl (.inl L41_0_some) Nm_some) pa_nilD)) (consA_len (consA_len nilA_len)) rfl))))))
/-! ### _law_right -/
abbrev s_42 : Stmt := top 42
abbrev N_42 : List Str := ["dice", "is_whole", "bad", "plain", "told", "due", "is_top", "is_bottom", "one", "value", "wrong"]
abbrev ps_42 : List Str := ["dice"]
theorem sc_42 : FnScope N_42 ps_42 (defScope s_42) := ⟨rfl, rfl, rfl, by decide +kernel, rfl, by decide +kernel, by decide +kernel⟩
def lm_42_0 : LamD := lamOf (kidE 1 (kidE 0 (valS (atS (defBody s_42) 4))))
def lm_42_1 : LamD := lamOf (kidE 1 (kidE 1 (valS (atS (defBody s_42) 4))))
def lm_42_2 : LamD := lamOf (kidE 1 (kidE 0 (kidE 1 (valS (atS (defBody s_42) 5)))))
def lm_42_3 : LamD := lamOf (kidE 1 (kidE 1 (kidE 1 (valS (atS (defBody s_42) 5)))))
def lm_42_4 : LamD := lamOf (kidE 1 (kidE 0 (kidE 1 (valS (atS (defBody s_42) 7)))))
def lm_42_5 : LamD := lamOf (kidE 1 (kidE 1 (kidE 1 (valS (atS (defBody s_42) 7)))))
def lm_42_6 : LamD := lamOf (kidE 1 (kidE 0 (kidE 1 (valS (atS (defBody s_42) 10)))))
def lm_42_7 : LamD := lamOf (kidE 1 (kidE 1 (kidE 1 (valS (atS (defBody s_42) 10)))))
def lm_42_8 : LamD := lamOf (kidE 1 (kidE 0 (kidE 1 (valS (atS (defBody s_42) 12)))))
def lm_42_9 : LamD := lamOf (kidE 1 (kidE 1 (kidE 1 (valS (atS (defBody s_42) 12)))))
def lm_42_10 : LamD := lamOf (kidE 1 (kidE 0 (valS (atS (defBody s_42) 18))))
def lm_42_11 : LamD := lamOf (kidE 1 (kidE 1 (valS (atS (defBody s_42) 18))))
theorem L42_0_dice : ((defScope s_42)).names.lookup ("dice" : Str) = some NameKind.local := by kernel_rfl
theorem L42_0__law_some : ((defScope s_42)).names.lookup ("_law_some" : Str) = some NameKind.globalImplicit := by kernel_rfl
theorem L42_0_wrong : ((defScope s_42)).names.lookup ("wrong" : Str) = some NameKind.cell := by kernel_rfl
theorem L42_0_value : ((defScope s_42)).names.lookup ("value" : Str) = some NameKind.cell := by kernel_rfl
theorem L42_0__law_is_number : ((defScope s_42)).names.lookup ("_law_is_number" : Str) = some NameKind.globalImplicit := by kernel_rfl
theorem L42_0_isinstance : ((defScope s_42)).names.lookup ("isinstance" : Str) = some NameKind.globalImplicit := by kernel_rfl
theorem L42_0_int : ((defScope s_42)).names.lookup ("int" : Str) = some NameKind.globalImplicit := by kernel_rfl
theorem L42_0_bool : ((defScope s_42)).names.lookup ("bool" : Str) = some NameKind.globalImplicit := by kernel_rfl
theorem L42_0_is_whole : ((defScope s_42)).names.lookup ("is_whole" : Str) = some NameKind.local := by kernel_rfl
theorem L42_0_bad : ((defScope s_42)).names.lookup ("bad" : Str) = some NameKind.local := by kernel_rfl
theorem L42_0_is_number : ((defScope s_42)).names.lookup ("is_number" : Str) = some NameKind.globalImplicit := by kernel_rfl
theorem L42_0_is_name : ((defScope s_42)).names.lookup ("is_name" : Str) = some NameKind.globalImplicit := by kernel_rfl
theorem L42_0_is_integer : ((defScope s_42)).names.lookup ("is_integer" : Str) = some NameKind.globalImplicit := by kernel_rfl
theorem L42_0_repr : ((defScope s_42)).names.lookup ("repr" : Str) = some NameKind.globalImplicit := by kernel_rfl
theorem L42_0__law_is_name : ((defScope s_42)).names.lookup ("_law_is_name" : Str) = some NameKind.globalImplicit := by kernel_rfl
theorem L42_0_plain : ((defScope s_42)).names.lookup ("plain" : Str) = some NameKind.local := by kernel_rfl
theorem L42_0_one : ((defScope s_42)).names.lookup ("one" : Str) = some NameKind.cell := by kernel_rfl
theorem L42_0__law_word : ((defScope s_42)).names.lookup ("_law_word" : Str) = some NameKind.globalImplicit := by kernel_rfl
theorem L42_0_told : ((defScope s_42)).names.lookup ("told" : Str) = some NameKind.local := by kernel_rfl
theorem L42_0_due : ((defScope s_42)).names.lookup ("due" : Str) = some NameKind.local := by kernel_rfl
theorem L42_0_abs : ((defScope s_42)).names.lookup ("abs" : Str) = some NameKind.globalImplicit := by kernel_rfl
theorem L42_0_is_top : ((defScope s_42)).names.lookup ("is_top" : Str) = some NameKind.local := by kernel_rfl
theorem L42_0_is_bottom : ((defScope s_42)).names.lookup ("is_bottom" : Str) = some NameKind.local := by kernel_rfl
theorem L42_100_wrong : (lm_42_0.2.2).names.lookup ("wrong" : Str) = some NameKind.free := by kernel_rfl
theorem L42_100_value : (lm_42_0.2.2).names.lookup ("value" : Str) = some NameKind.free := by kernel_rfl
theorem L42_100_plus : (lm_42_0.2.2).names.lookup ("plus" : Str) = some NameKind.globalImplicit := by kernel_rfl
theorem L42_101_value : (lm_42_1.2.2).names.lookup ("value" : Str) = some NameKind.free := by kernel_rfl
theorem L42_101_one : (lm_42_1.2.2).names.lookup ("one" : Str) = some NameKind.free := by kernel_rfl
theorem L42_101_minus : (lm_42_1.2.2).names.lookup ("minus" : Str) = some NameKind.globalImplicit := by kernel_rfl
theorem L42_102_one : (lm_42_2.2.2).names.lookup ("one" : Str) = some NameKind.free := by kernel_rfl
theorem L42_102_value : (lm_42_2.2.2).names.lookup ("value" : Str) = some NameKind.free := by kernel_rfl
theorem L42_102_times : (lm_42_2.2.2).names.lookup ("times" : Str) = some NameKind.globalImplicit := by kernel_rfl
theorem L42_103_value : (lm_42_3.2.2).names.lookup ("value" : Str) = some NameKind.free := by kernel_rfl
theorem L42_103_one : (lm_42_3.2.2).names.lookup ("one" : Str) = some NameKind.free := by kernel_rfl
theorem L42_103_compared : (lm_42_3.2.2).names.lookup ("compared" : Str) = some NameKind.globalImplicit := by kernel_rfl
theorem L42_104_value : (lm_42_4.2.2).names.lookup ("value" : Str) = some NameKind.free := by kernel_rfl
theorem L42_104_over : (lm_42_4.2.2).names.lookup ("over" : Str) = some NameKind.globalImplicit := by kernel_rfl
theorem L42_105_value : (lm_42_5.2.2).names.lookup ("value" : Str) = some NameKind.free := by kernel_rfl
theorem L42_105_one : (lm_42_5.2.2).names.lookup ("one" : Str) = some NameKind.free := by kernel_rfl
theorem L42_105_over : (lm_42_5.2.2).names.lookup ("over" : Str) = some NameKind.globalImplicit := by kernel_rfl
theorem L42_106_value : (lm_42_6.2.2).names.lookup ("value" : Str) = some NameKind.free := by kernel_rfl
theorem L42_106_one : (lm_42_6.2.2).names.lookup ("one" : Str) = some NameKind.free := by kernel_rfl
theorem L42_106_total : (lm_42_6.2.2).names.lookup ("total" : Str) = some NameKind.globalImplicit := by kernel_rfl
theorem L42_107_value : (lm_42_7.2.2).names.lookup ("value" : Str) = some NameKind.free := by kernel_rfl
theorem L42_107_total : (lm_42_7.2.2).names.lookup ("total" : Str) = some NameKind.globalImplicit := by kernel_rfl
theorem L42_108_value : (lm_42_8.2.2).names.lookup ("value" : Str) = some NameKind.free := by kernel_rfl
theorem L42_108_power : (lm_42_8.2.2).names.lookup ("power" : Str) = some NameKind.globalImplicit := by kernel_rfl
theorem L42_109_value : (lm_42_9.2.2).names.lookup ("value" : Str) = some NameKind.free := by kernel_rfl
theorem L42_109_one : (lm_42_9.2.2).names.lookup ("one" : Str) = some NameKind.free := by kernel_rfl
theorem L42_109_power : (lm_42_9.2.2).names.lookup ("power" : Str) = some NameKind.globalImplicit := by kernel_rfl
theorem L42_110_wrong : (lm_42_10.2.2).names.lookup ("wrong" : Str) = some NameKind.free := by kernel_rfl
theorem L42_110_value : (lm_42_10.2.2).names.lookup ("value" : Str) = some NameKind.free := by kernel_rfl
theorem L42_110_number : (lm_42_10.2.2).names.lookup ("number" : Str) = some NameKind.globalImplicit := by kernel_rfl
theorem L42_111_value : (lm_42_11.2.2).names.lookup ("value" : Str) = some NameKind.free := by kernel_rfl
theorem L42_111_number : (lm_42_11.2.2).names.lookup ("number" : Str) = some NameKind.globalImplicit := by kernel_rfl
def L_42 : Nat → Option LamD := fun k => match k with
  | 0 => some lm_42_0
  | 1 => some lm_42_1
  | 2 => some lm_42_2
  | 3 => some lm_42_3
  | 4 => some lm_42_4
  | 5 => some lm_42_5
  | 6 => some lm_42_6
  | 7 => some lm_42_7
  | 8 => some lm_42_8
  | 9 => some lm_42_9
  | 10 => some lm_42_10
  | 11 => some lm_42_11
  | _ => none
def mb_42_0 : SE := (callF true n_plus [] (consA (var 9) (consA (var 10) nilA)))
def mb_42_1 : SE := (callF true n_minus [] (consA (var 8) (consA (var 9) nilA)))
def mb_42_2 : SE := (callF true n_times [] (consA (var 9) (consA (var 8) nilA)))
def mb_42_3 : SE := (callF true n_compared [] (consA (var 8) (consA (var 9) nilA)))
def mb_42_4 : SE := (callF true n_over [] (consA (var 9) (consA (tupE (consA (cst (.int 0)) (consA (cst (.int 1)) nilA))) nilA)))
def mb_42_5 : SE := (callF true n_over [] (consA (var 8) (consA (var 9) nilA)))
def mb_42_6 : SE := (callF true n_total [] (consA (tupE (consA (var 8) (consA (var 9) nilA))) nilA))
def mb_42_7 : SE := (callF true n_total [] (consA (var 9) nilA))
def mb_42_8 : SE := (callF true n_power [] (consA (var 9) (consA (unE negD (cst (.int 1))) nilA)))
def mb_42_9 : SE := (callF true n_power [] (consA (var 8) (consA (var 9) nilA)))
def mb_42_10 : SE := (callF true n_number [] (consA (var 9) (consA (var 10) nilA)))
def mb_42_11 : SE := (callF true n_number [] (consA (cst (.int 4)) (consA (var 9) nilA)))
def lams_42 : Nat → SE := fun k => match k with
  | 0 => mb_42_0
  | 1 => mb_42_1
  | 2 => mb_42_2
  | 3 => mb_42_3
  | 4 => mb_42_4
  | 5 => mb_42_5
  | 6 => mb_42_6
  | 7 => mb_42_7
  | 8 => mb_42_8
  | 9 => mb_42_9
  | 10 => mb_42_10
  | 11 => mb_42_11
  | _ => badE
def m__law_right_0 : SS := (asgS (tupG [9, 10]) (tupE (consA (callF false n__law_some [] (consA (var 0) nilA)) (consA (callF false n__law_some [] (consA (var 0) nilA)) nilA))))
def m__law_right_1 : SS := (parS 1 2 (consA (andE (unE (isiD .int) (var 9)) (notE (unE (isiD .bool) (var 9)))) (consA (notE (callF true n__law_is_number [] (consA (var 9) nilA))) nilA)))
def m__law_right_2 : SS := (ifS (truE (binE (cmpD .NotEq) (callB reprD (consA (lstE false (consA (callF true n_is_integer [] (consA (var 9) nilA)) (consA (callF true n_is_name [] (consA (var 9) nilA)) (consA (callF true n_is_number [] (consA (var 9) nilA)) nilA)))) nilA)) (callB reprD (consA (lstE false (consA (var 1) (consA (callF true n__law_is_name [] (consA (var 9) nilA)) (consA (notE (var 2)) nilA)))) nilA)))) (retS (cst (.bl false))) nilS)
def m__law_right_3 : SS := (asgS (tupG [8, 3]) (tupE (consA (tupE (consA (cst (.int 3)) (consA (cst (.int 2)) nilA))) (consA (ifE (truE (var 2)) (cst (.str [102, 114, 97, 99, 116, 105, 111, 110])) (cst (.str [102, 105, 110, 101]))) nilA))))
def m__law_right_4 : SS := (setS 4 (lstE false (consA (wordE 2 m__law_word lams_42 (cloE 0)) (consA (wordE 2 m__law_word lams_42 (cloE 1)) nilA))))
def m__law_right_5 : SS := (setS 4 (binE (addD false) (var 4) (lstE false (consA (wordE 2 m__law_word lams_42 (cloE 2)) (consA (wordE 2 m__law_word lams_42 (cloE 3)) nilA)))))
def m__law_right_6 : SS := (setS 5 (binE (addD true) (lstE false (consA (ifE (andT (notT (truE (var 2))) (truE (callF true n__law_is_number [] (consA (var 10) nilA)))) (cst (.str [102, 105, 110, 101])) (cst (.str [102, 114, 97, 99, 116, 105, 111, 110]))) nilA)) (binE (mulD false) (lstE true (consA (var 3) nilA)) (cst (.int 3)))))
def m__law_right_7 : SS := (setS 4 (binE (addD false) (var 4) (lstE false (consA (wordE 2 m__law_word lams_42 (cloE 4)) (consA (wordE 2 m__law_word lams_42 (cloE 5)) nilA)))))
def m__law_right_8 : SS := (setS 5 (binE (addD true) (var 5) (lstE false (consA (ifE (truE (var 2)) (cst (.str [102, 114, 97, 99, 116, 105, 111, 110])) (cst (.str [114, 101, 102, 117, 115, 101, 100, 32, 40, 39, 110, 111, 117, 103, 104, 116, 39, 44, 41]))) nilA))))
def m__law_right_9 : SS := (exprS (appE (var 5) (ifE (truE (binE (cmpD .Eq) (callB reprD (consA (var 9) nilA)) (cst (.str [40, 48, 44, 32, 49, 41])))) (cst (.str [114, 101, 102, 117, 115, 101, 100, 32, 40, 39, 110, 111, 117, 103, 104, 116, 39, 44, 41])) (var 3))))
def m__law_right_10 : SS := (setS 4 (binE (addD false) (var 4) (lstE false (consA (wordE 2 m__law_word lams_42 (cloE 6)) (consA (wordE 2 m__law_word lams_42 (cloE 7)) nilA)))))
def m__law_right_11 : SS := (setS 5 (binE (addD true) (var 5) (lstE false (consA (var 3) (consA (ifE (truE (binE (cmpD .Eq) (callB reprD (consA (var 9) nilA)) (cst (.str [40, 41])))) (cst (.str [102, 105, 110, 101])) (cst (.str [102, 114, 97, 99, 116, 105, 111, 110]))) nilA)))))
def m__law_right_12 : SS := (setS 4 (binE (addD false) (var 4) (lstE false (consA (wordE 2 m__law_word lams_42 (cloE 8)) (consA (wordE 2 m__law_word lams_42 (cloE 9)) nilA)))))
def m__law_right_13 : SS := (setS 5 (binE (addD true) (var 5) (lstE false (consA (ifE (truE (var 2)) (cst (.str [102, 114, 97, 99, 116, 105, 111, 110])) (cst (.str [99, 111, 117, 110, 116, 32, 45, 49]))) nilA))))
def m__law_right_14 : SS := (exprS (appE (var 5) (ifE (andT (truE (var 1)) (truE (chainE (cmpD .LtE) (cmpD .LtE) (cst (.int 0)) (var 9) (cst (.int 60))))) (cst (.str [102, 105, 110, 101])) (binE (addD false) (cst (.str [99, 111, 117, 110, 116, 32])) (callB reprD (consA (var 9) nilA))))))
def m__law_right_15 : SS := (ifS (truE (binE (cmpD .NotEq) (var 4) (var 5))) (retS (cst (.bl false))) nilS)
def m__law_right_16 : SS := (setS 6 (andE (var 1) (binE (cmpD .Lt) (callB absD (consA (var 9) nilA)) (binE powD (cst (.int 10)) (cst (.int 40))))))
def m__law_right_17 : SS := (setS 7 (andE (unE (isiD .int) (var 10)) (andE (notE (unE (isiD .bool) (var 10))) (andE (binE (cmpD .Lt) (callB absD (consA (var 10) nilA)) (binE powD (cst (.int 10)) (cst (.int 40)))) (binE (cmpD .NotEq) (var 10) (cst (.int 0)))))))
def m__law_right_18 : SS := (setS 4 (lstE false (consA (wordE 2 m__law_word lams_42 (cloE 10)) (consA (wordE 2 m__law_word lams_42 (cloE 11)) nilA))))
def m__law_right_19 : SS := (setS 5 (ifE (notT (truE (var 6))) (binE (addD true) (cst (.str [99, 111, 117, 110, 116, 32])) (callB reprD (consA (var 9) nilA))) (ifE (truE (var 7)) (cst (.str [102, 105, 110, 101])) (binE (addD true) (cst (.str [99, 111, 117, 110, 116, 32])) (callB reprD (consA (var 10) nilA))))))
def m__law_right_20 : SS := (retS (binE (cmpD .Eq) (var 4) (lstE false (consA (var 5) (consA (ifE (andT (truE (var 6)) (truE (binE (cmpD .NotEq) (var 9) (cst (.int 0))))) (cst (.str [102, 105, 110, 101])) (binE (addD false) (cst (.str [99, 111, 117, 110, 116, 32])) (callB reprD (consA (var 9) nilA)))) nilA)))))
abbrev X_42 (Pg : Program) (w : World) (mg : Str → Option Value) (base : Heap) (Z : Am) (fA : Addr) (cdv : Value) (A0 : Around) (o0 : List Env) (s0 : Shared) (H0 : Hp) (E0 : XK) : Cx := cxOf (L2.CX Pg w) Pg w Z.K mg base N_42 "_law_right" (defScope s_42) fA cdv A0 o0 s0 H0 E0
theorem lo_42_0 : LamOk (defScope s_42) lm_42_0 := ⟨lamS_by (by decide +kernel), fun _ _ _ _ _ => rfl⟩
theorem lb_42_0 (F : Facts Pg w mg base Z rt n) (fA : Addr) (cdv : Value) (A0 : Around) (o0 : List Env) (s0 : Shared) (H0 : Hp) (E0 : XK) (A : Around) (outer : List Env) (s : Shared) (H : Hp) (E : XK) (f k : Addr) (hr : RoomG n (A.deeper (lamEnv (X_42 Pg w mg base Z fA cdv A0 o0 s0 H0 E0) lm_42_0.2.2 s.heap.objs.size f k))) :
    PE (lamCx (X_42 Pg w mg base Z fA cdv A0 o0 s0 H0 E0) A outer s H E lm_42_0.2.2 f k) lm_42_0.2.1 (tE Z rt (fun cls d _ H' => E cls d H') mb_42_0) := by
  have C : Ct (lamCx (X_42 Pg w mg base Z fA cdv A0 o0 s0 H0 E0) A outer s H E lm_42_0.2.2 f k) Z (fun cls d _ H' => E cls d H') n := ⟨rfl, rfl, sc_42.nd, hr, takes_of rfl rfl rfl rfl⟩
  exact (eFn true C F.c_plus_2 L42_100_plus Nm_plus rfl (pa_consD rfl (eVar (i := 9) rfl (.inr (.inr L42_100_value)) Nm_value) (pa_consD rfl (eVar (i := 10) rfl (.inr (.inr L42_100_wrong)) Nm_wrong) pa_nilD)) (consA_len (consA_len nilA_len)) rfl)
theorem lo_42_1 : LamOk (defScope s_42) lm_42_1 := ⟨lamS_by (by decide +kernel), fun _ _ _ _ _ => rfl⟩
theorem lb_42_1 (F : Facts Pg w mg base Z rt n) (fA : Addr) (cdv : Value) (A0 : Around) (o0 : List Env) (s0 : Shared) (H0 : Hp) (E0 : XK) (A : Around) (outer : List Env) (s : Shared) (H : Hp) (E : XK) (f k : Addr) (hr : RoomG n (A.deeper (lamEnv (X_42 Pg w mg base Z fA cdv A0 o0 s0 H0 E0) lm_42_1.2.2 s.heap.objs.size f k))) :
    PE (lamCx (X_42 Pg w mg base Z fA cdv A0 o0 s0 H0 E0) A outer s H E lm_42_1.2.2 f k) lm_42_1.2.1 (tE Z rt (fun cls d _ H' => E cls d H') mb_42_1) := by
  have C : Ct (lamCx (X_42 Pg w mg base Z fA cdv A0 o0 s0 H0 E0) A outer s H E lm_42_1.2.2 f k) Z (fun cls d _ H' => E cls d H') n := ⟨rfl, rfl, sc_42.nd, hr, takes_of rfl rfl rfl rfl⟩
  exact (eFn true C F.c_minus_2 L42_101_minus Nm_minus rfl (pa_consD rfl (eVar (i := 8) rfl (.inr (.inr L42_101_one)) Nm_one) (pa_consD rfl (eVar (i := 9) rfl (.inr (.inr L42_101_value)) Nm_value) pa_nilD)) (consA_len (consA_len nilA_len)) rfl)
theorem lo_42_2 : LamOk (defScope s_42) lm_42_2 := ⟨lamS_by (by decide +kernel), fun _ _ _ _ _ => rfl⟩
theorem lb_42_2 (F : Facts Pg w mg base Z rt n) (fA : Addr) (cdv : Value) (A0 : Around) (o0 : List Env) (s0 : Shared) (H0 : Hp) (E0 : XK) (A : Around) (outer : List Env) (s : Shared) (H : Hp) (E : XK) (f k : Addr) (hr : RoomG n (A.deeper (lamEnv (X_42 Pg w mg base Z fA cdv A0 o0 s0 H0 E0) lm_42_2.2.2 s.heap.objs.size f k))) :
    PE (lamCx (X_42 Pg w mg base Z fA cdv A0 o0 s0 H0 E0) A outer s H E lm_42_2.2.2 f k) lm_42_2.2.1 (tE Z rt (fun cls d _ H' => E cls d H') mb_42_2) := by
  have C : Ct (lamCx (X_42 Pg w mg base Z fA cdv A0 o0 s0 H0 E0) A outer s H E lm_42_2.2.2 f k) Z (fun cls d _ H' => E cls d H') n := ⟨rfl, rfl, sc_42.nd, hr, takes_of rfl rfl rfl rfl⟩
  exact (eFn true C F.c_times_2 L42_102_times Nm_times rfl (pa_consD rfl (eVar (i := 9) rfl (.inr (.inr L42_102_value)) Nm_value) (pa_consD rfl (eVar (i := 8) rfl (.inr (.inr L42_102_one)) Nm_one) pa_nilD)) (consA_len (consA_len nilA_len)) rfl)
theorem lo_42_3 : LamOk (defScope s_42) lm_42_3 := ⟨lamS_by (by decide +kernel), fun _ _ _ _ _ => rfl⟩
theorem lb_42_3 (F : Facts Pg w mg base Z rt n) (fA : Addr) (cdv : Value) (A0 : Around) (o0 : List Env) (s0 : Shared) (H0 : Hp) (E0 : XK) (A : Around) (outer : List Env) (s : Shared) (H : Hp) (E : XK) (f k : Addr) (hr : RoomG n (A.deeper (lamEnv (X_42 Pg w mg base Z fA cdv A0 o0 s0 H0 E0) lm_42_3.2.2 s.heap.objs.size f k))) :
    PE (lamCx (X_42 Pg w mg base Z fA cdv A0 o0 s0 H0 E0) A outer s H E lm_42_3.2.2 f k) lm_42_3.2.1 (tE Z rt (fun cls d _ H' => E cls d H') mb_42_3) := by
  have C : Ct (lamCx (X_42 Pg w mg base Z fA cdv A0 o0 s0 H0 E0) A outer s H E lm_42_3.2.2 f k) Z (fun cls d _ H' => E cls d H') n := ⟨rfl, rfl, sc_42.nd, hr, takes_of rfl rfl rfl rfl⟩
  exact (eFn true C F.c_compared_2 L42_103_compared Nm_compared rfl (pa_consD rfl (eVar (i := 8) rfl (.inr (.inr L42_103_one)) Nm_one) (pa_consD rfl (eVar (i := 9) rfl (.inr (.inr L42_103_value)) Nm_value) pa_nilD)) (consA_len (consA_len nilA_len)) rfl)
theorem lo_42_4 : LamOk (defScope s_42) lm_42_4 := ⟨lamS_by (by decide +kernel), fun _ _ _ _ _ => rfl⟩
theorem lb_42_4 (F : Facts Pg w mg base Z rt n) (fA : Addr) (cdv : Value) (A0 : Around) (o0 : List Env) (s0 : Shared) (H0 : Hp) (E0 : XK) (A : Around) (outer : List Env) (s : Shared) (H : Hp) (E : XK) (f k : Addr) (hr : RoomG n (A.deeper (lamEnv (X_42 Pg w mg base Z fA cdv A0 o0 s0 H0 E0) lm_42_4.2.2 s.heap.objs.size f k))) :
    PE (lamCx (X_42 Pg w mg base Z fA cdv A0 o0 s0 H0 E0) A outer s H E lm_42_4.2.2 f k) lm_42_4.2.1 (tE Z rt (fun cls d _ H' => E cls d H') mb_42_4) := by
  have C : Ct (lamCx (X_42 Pg w mg base Z fA cdv A0 o0 s0 H0 E0) A outer s H E lm_42_4.2.2 f k) Z (fun cls d _ H' => E cls d H') n := ⟨rfl, rfl, sc_42.nd, hr, takes_of rfl rfl rfl rfl⟩
  exact (eFn true C F.c_over_2 L42_104_over Nm_over rfl (pa_consD rfl (eVar (i := 9) rfl (.inr (.inr L42_104_value)) Nm_value) (pa_consD rfl (eTup (pa_consD rfl pv_int (pa_consD rfl pv_int pa_nilD))) pa_nilD)) (consA_len (consA_len nilA_len)) rfl)
theorem lo_42_5 : LamOk (defScope s_42) lm_42_5 := ⟨lamS_by (by decide +kernel), fun _ _ _ _ _ => rfl⟩
theorem lb_42_5 (F : Facts Pg w mg base Z rt n) (fA : Addr) (cdv : Value) (A0 : Around) (o0 : List Env) (s0 : Shared) (H0 : Hp) (E0 : XK) (A : Around) (outer : List Env) (s : Shared) (H : Hp) (E : XK) (f k : Addr) (hr : RoomG n (A.deeper (lamEnv (X_42 Pg w mg base Z fA cdv A0 o0 s0 H0 E0) lm_42_5.2.2 s.heap.objs.size f k))) :
    PE (lamCx (X_42 Pg w mg base Z fA cdv A0 o0 s0 H0 E0) A outer s H E lm_42_5.2.2 f k) lm_42_5.2.1 (tE Z rt (fun cls d _ H' => E cls d H') mb_42_5) := by
  have C : Ct (lamCx (X_42 Pg w mg base Z fA cdv A0 o0 s0 H0 E0) A outer s H E lm_42_5.2.2 f k) Z (fun cls d _ H' => E cls d H') n := ⟨rfl, rfl, sc_42.nd, hr, takes_of rfl rfl rfl rfl⟩
  exact (eFn true C F.c_over_2 L42_105_over Nm_over rfl (pa_consD rfl (eVar (i := 8) rfl (.inr (.inr L42_105_one)) Nm_one) (pa_consD rfl (eVar (i := 9) rfl (.inr (.inr L42_105_value)) Nm_value) pa_nilD)) (consA_len (consA_len nilA_len)) rfl)
theorem lo_42_6 : LamOk (defScope s_42) lm_42_6 := ⟨lamS_by (by decide +kernel), fun _ _ _ _ _ => rfl⟩
theorem lb_42_6 (F : Facts Pg w mg base Z rt n) (fA : Addr) (cdv : Value) (A0 : Around) (o0 : List Env) (s0 : Shared) (H0 : Hp) (E0 : XK) (A : Around) (outer : List Env) (s : Shared) (H : Hp) (E : XK) (f k : Addr) (hr : RoomG n (A.deeper (lamEnv (X_42 Pg w mg base Z fA cdv A0 o0 s0 H0 E0) lm_42_6.2.2 s.heap.objs.size f k))) :
    PE (lamCx (X_42 Pg w mg base Z fA cdv A0 o0 s0 H0 E0) A outer s H E lm_42_6.2.2 f k) lm_42_6.2.1 (tE Z rt (fun cls d _ H' => E cls d H') mb_42_6) := by
  have C : Ct (lamCx (X_42 Pg w mg base Z fA cdv A0 o0 s0 H0 E0) A outer s H E lm_42_6.2.2 f k) Z (fun cls d _ H' => E cls d H') n := ⟨rfl, rfl, sc_42.nd, hr, takes_of rfl rfl rfl rfl⟩
  exact (eFn true C F.c_total_1 L42_106_total Nm_total rfl (pa_consD rfl (eTup (pa_consD rfl (eVar (i := 8) rfl (.inr (.inr L42_106_one)) Nm_one) (pa_consD rfl (eVar (i := 9) rfl (.inr (.inr L42_106_value)) Nm_value) pa_nilD))) pa_nilD) (consA_len nilA_len) rfl)
theorem lo_42_7 : LamOk (defScope s_42) lm_42_7 := ⟨lamS_by (by decide +kernel), fun _ _ _ _ _ => rfl⟩
theorem lb_42_7 (F : Facts Pg w mg base Z rt n) (fA : Addr) (cdv : Value) (A0 : Around) (o0 : List Env) (s0 : Shared) (H0 : Hp) (E0 : XK) (A : Around) (outer : List Env) (s : Shared) (H : Hp) (E : XK) (f k : Addr) (hr : RoomG n (A.deeper (lamEnv (X_42 Pg w mg base Z fA cdv A0 o0 s0 H0 E0) lm_42_7.2.2 s.heap.objs.size f k))) :
    PE (lamCx (X_42 Pg w mg base Z fA cdv A0 o0 s0 H0 E0) A outer s H E lm_42_7.2.2 f k) lm_42_7.2.1 (tE Z rt (fun cls d _ H' => E cls d H') mb_42_7) := by
  have C : Ct (lamCx (X_42 Pg w mg base Z fA cdv A0 o0 s0 H0 E0) A outer s H E lm_42_7.2.2 f k) Z (fun cls d _ H' => E cls d H') n := ⟨rfl, rfl, sc_42.nd, hr, takes_of rfl rfl rfl rfl⟩
  exact (eFn true C F.c_total_1 L42_107_total Nm_total rfl (pa_consD rfl (eVar (i := 9) rfl (.inr (.inr L42_107_value)) Nm_value) pa_nilD) (consA_len nilA_len) rfl)
theorem lo_42_8 : LamOk (defScope s_42) lm_42_8 := ⟨lamS_by (by decide +kernel), fun _ _ _ _ _ => rfl⟩
theorem lb_42_8 (F : Facts Pg w mg base Z rt n) (fA : Addr) (cdv : Value) (A0 : Around) (o0 : List Env) (s0 : Shared) (H0 : Hp) (E0 : XK) (A : Around) (outer : List Env) (s : Shared) (H : Hp) (E : XK) (f k : Addr) (hr : RoomG n (A.deeper (lamEnv (X_42 Pg w mg base Z fA cdv A0 o0 s0 H0 E0) lm_42_8.2.2 s.heap.objs.size f k))) :
    PE (lamCx (X_42 Pg w mg base Z fA cdv A0 o0 s0 H0 E0) A outer s H E lm_42_8.2.2 f k) lm_42_8.2.1 (tE Z rt (fun cls d _ H' => E cls d H') mb_42_8) := by
  have C : Ct (lamCx (X_42 Pg w mg base Z fA cdv A0 o0 s0 H0 E0) A outer s H E lm_42_8.2.2 f k) Z (fun cls d _ H' => E cls d H') n := ⟨rfl, rfl, sc_42.nd, hr, takes_of rfl rfl rfl rfl⟩
  exact (eFn true C F.c_power_2 L42_108_power Nm_power rfl (pa_consD rfl (eVar (i := 9) rfl (.inr (.inr L42_108_value)) Nm_value) (pa_consD rfl (eNeg pv_int) pa_nilD)) (consA_len (consA_len nilA_len)) rfl)
theorem lo_42_9 : LamOk (defScope s_42) lm_42_9 := ⟨lamS_by (by decide +kernel), fun _ _ _ _ _ => rfl⟩
theorem lb_42_9 (F : Facts Pg w mg base Z rt n) (fA : Addr) (cdv : Value) (A0 : Around) (o0 : List Env) (s0 : Shared) (H0 : Hp) (E0 : XK) (A : Around) (outer : List Env) (s : Shared) (H : Hp) (E : XK) (f k : Addr) (hr : RoomG n (A.deeper (lamEnv (X_42 Pg w mg base Z fA cdv A0 o0 s0 H0 E0) lm_42_9.2.2 s.heap.objs.size f k))) :
    PE (lamCx (X_42 Pg w mg base Z fA cdv A0 o0 s0 H0 E0) A outer s H E lm_42_9.2.2 f k) lm_42_9.2.1 (tE Z rt (fun cls d _ H' => E cls d H') mb_42_9) := by
  have C : Ct (lamCx (X_42 Pg w mg base Z fA cdv A0 o0 s0 H0 E0) A outer s H E lm_42_9.2.2 f k) Z (fun cls d _ H' => E cls d H') n := ⟨rfl, rfl, sc_42.nd, hr, takes_of rfl rfl rfl rfl⟩
  exact (eFn true C F.c_power_2 L42_109_power Nm_power rfl (pa_consD rfl (eVar (i := 8) rfl (.inr (.inr L42_109_one)) Nm_one) (pa_consD rfl (eVar (i := 9) rfl (.inr (.inr L42_109_value)) Nm_value) pa_nilD)) (consA_len (consA_len nilA_len)) rfl)
theorem lo_42_10 : LamOk (defScope s_42) lm_42_10 := ⟨lamS_by (by decide +kernel), fun _ _ _ _ _ => rfl⟩
theorem lb_42_10 (F : Facts Pg w mg base Z rt n) (fA : Addr) (cdv : Value) (A0 : Around) (o0 : List Env) (s0 : Shared) (H0 : Hp) (E0 : XK) (A : Around) (outer : List Env) (s : Shared) (H : Hp) (E : XK) (f k : Addr) (hr : RoomG n (A.deeper (lamEnv (X_42 Pg w mg base Z fA cdv A0 o0 s0 H0 E0) lm_42_10.2.2 s.heap.objs.size f k))) :
    PE (lamCx (X_42 Pg w mg base Z fA cdv A0 o0 s0 H0 E0) A outer s H E lm_42_10.2.2 f k) lm_42_10.2.1 (tE Z rt (fun cls d _ H' => E cls d H') mb_42_10) := by
  have C : Ct (lamCx (X_42 Pg w mg base Z fA cdv A0 o0 s0 H0 E0) A outer s H E lm_42_10.2.2 f k) Z (fun cls d _ H' => E cls d H') n := ⟨rfl, rfl, sc_42.nd, hr, takes_of rfl rfl rfl rfl⟩
  exact (eFn true C F.c_number_2 L42_110_number Nm_number rfl (pa_consD rfl (eVar (i := 9) rfl (.inr (.inr L42_110_value)) Nm_value) (pa_consD rfl (eVar (i := 10) rfl (.inr (.inr L42_110_wrong)) Nm_wrong) pa_nilD)) (consA_len (consA_len nilA_len)) rfl)
theorem lo_42_11 : LamOk (defScope s_42) lm_42_11 := ⟨lamS_by (by decide +kernel), fun _ _ _ _ _ => rfl⟩
theorem lb_42_11 (F : Facts Pg w mg base Z rt n) (fA : Addr) (cdv : Value) (A0 : Around) (o0 : List Env) (s0 : Shared) (H0 : Hp) (E0 : XK) (A : Around) (outer : List Env) (s : Shared) (H : Hp) (E : XK) (f k : Addr) (hr : RoomG n (A.deeper (lamEnv (X_42 Pg w mg base Z fA cdv A0 o0 s0 H0 E0) lm_42_11.2.2 s.heap.objs.size f k))) :
    PE (lamCx (X_42 Pg w mg base Z fA cdv A0 o0 s0 H0 E0) A outer s H E lm_42_11.2.2 f k) lm_42_11.2.1 (tE Z rt (fun cls d _ H' => E cls d H') mb_42_11) := by
  have C : Ct (lamCx (X_42 Pg w mg base Z fA cdv A0 o0 s0 H0 E0) A outer s H E lm_42_11.2.2 f k) Z (fun cls d _ H' => E cls d H') n := ⟨rfl, rfl, sc_42.nd, hr, takes_of rfl rfl rfl rfl⟩
  exact (eFn true C F.c_number_2 L42_111_number Nm_number rfl (pa_consD rfl pv_int (pa_consD rfl (eVar (i := 9) rfl (.inr (.inr L42_111_value)) Nm_value) pa_nilD)) (consA_len (consA_len nilA_len)) rfl)
theorem ls_42 : ∀ j d, L_42 j = some d → LamOk (defScope s_42) d := by
  intro j d h
  unfold L_42 at h
  split at h
  · cases h; exact lo_42_0
  · cases h; exact lo_42_1
  · cases h; exact lo_42_2
  · cases h; exact lo_42_3
  · cases h; exact lo_42_4
  · cases h; exact lo_42_5
  · cases h; exact lo_42_6
  · cases h; exact lo_42_7
  · cases h; exact lo_42_8
  · cases h; exact lo_42_9
  · cases h; exact lo_42_10
  · cases h; exact lo_42_11
  · cases h
def m__law_right : SS := (seqS m__law_right_0
  (seqS m__law_right_1
  (seqS m__law_right_2
  (seqS m__law_right_3
  (seqS m__law_right_4
  (seqS m__law_right_5
  (seqS m__law_right_6
  (seqS m__law_right_7
  (seqS m__law_right_8
  (seqS m__law_right_9
  (seqS m__law_right_10
  (seqS m__law_right_11
  (seqS m__law_right_12
  (seqS m__law_right_13
  (seqS m__law_right_14
  (seqS m__law_right_15
  (seqS m__law_right_16
  (seqS m__law_right_17
  (seqS m__law_right_18
  (seqS m__law_right_19
  m__law_right_20))))))))))))))))))))
theorem b_42 (F0 : Facts Pg w mg base Z rt n) (pl : PlainRt rt) (fA : Addr) (cdv : Value) (A0 : Around) (o0 : List Env) (s0 : Shared) (H0 : Hp) (E0 : XK) {c tb : Addr} (hcd : cdv = .ref c) (TB : TabB base mg c tb) (m1 : (tb, ((envOfC "_law_right" (defScope s_42) s0.heap.objs.size fA cdv).qual ++ "<lambda>")) ∈ Z.T) (m2 : ∀ p ∈ Z.T, p.1 = tb → p.2 = ((envOfC "_law_right" (defScope s_42) s0.heap.objs.size fA cdv).qual ++ "<lambda>")) (hr : RoomG (n + 3) (A0.deeper (envOfC "_law_right" (defScope s_42) s0.heap.objs.size fA cdv))) :
    PSs (X_42 Pg w mg base Z fA cdv A0 o0 s0 H0 E0) (defBody s_42) (tS (Zf Z ((envOfC "_law_right" (defScope s_42) s0.heap.objs.size fA cdv).qual ++ "<lambda>") (envOfC "_law_right" (defScope s_42) s0.heap.objs.size fA cdv).cells L_42) rt (fun cls d _ H' => E0 cls d H') m__law_right) := by
  have F : Facts Pg w mg base (Zf Z ((envOfC "_law_right" (defScope s_42) s0.heap.objs.size fA cdv).qual ++ "<lambda>") (envOfC "_law_right" (defScope s_42) s0.heap.objs.size fA cdv).cells L_42) rt n := F0.lam pl (fun u ρ H h => by obtain ⟨d, k, e, _⟩ := h; cases (show (none : Option LamD) = some d from e))
  have C3 : Ct (X_42 Pg w mg base Z fA cdv A0 o0 s0 H0 E0) (Zf Z ((envOfC "_law_right" (defScope s_42) s0.heap.objs.size fA cdv).qual ++ "<lambda>") (envOfC "_law_right" (defScope s_42) s0.heap.objs.size fA cdv).cells L_42) (fun cls d _ H' => E0 cls d H') (n + 3) := ⟨rfl, rfl, sc_42.nd, hr, takes_of rfl rfl rfl rfl⟩
  have C : Ct (X_42 Pg w mg base Z fA cdv A0 o0 s0 H0 E0) (Zf Z ((envOfC "_law_right" (defScope s_42) s0.heap.objs.size fA cdv).qual ++ "<lambda>") (envOfC "_law_right" (defScope s_42) s0.heap.objs.size fA cdv).cells L_42) (fun cls d _ H' => E0 cls d H') n := C3.mono (by omega)
  have LB : ∀ j d, L_42 j = some d → ∀ (A : Around) (outer : List Env) (s : Shared) (H : Hp) (E : XK) (f k : Addr), RoomG n (A.deeper (lamEnv (X_42 Pg w mg base Z fA cdv A0 o0 s0 H0 E0) d.2.2 s.heap.objs.size f k)) → PE (lamCx (X_42 Pg w mg base Z fA cdv A0 o0 s0 H0 E0) A outer s H E d.2.2 f k) d.2.1 (tE (Zf Z ((envOfC "_law_right" (defScope s_42) s0.heap.objs.size fA cdv).qual ++ "<lambda>") (envOfC "_law_right" (defScope s_42) s0.heap.objs.size fA cdv).cells L_42) rt (fun cls d _ H' => E cls d H') (lams_42 j)) := by
    intro j d h
    unfold L_42 at h
    split at h
    · cases h; exact fun A outer s H E f k hr => lb_42_0 F fA cdv A0 o0 s0 H0 E0 A outer s H E f k hr
    · cases h; exact fun A outer s H E f k hr => lb_42_1 F fA cdv A0 o0 s0 H0 E0 A outer s H E f k hr
    · cases h; exact fun A outer s H E f k hr => lb_42_2 F fA cdv A0 o0 s0 H0 E0 A outer s H E f k hr
    · cases h; exact fun A outer s H E f k hr => lb_42_3 F fA cdv A0 o0 s0 H0 E0 A outer s H E f k hr
    · cases h; exact fun A outer s H E f k hr => lb_42_4 F fA cdv A0 o0 s0 H0 E0 A outer s H E f k hr
    · cases h; exact fun A outer s H E f k hr => lb_42_5 F fA cdv A0 o0 s0 H0 E0 A outer s H E f k hr
    · cases h; exact fun A outer s H E f k hr => lb_42_6 F fA cdv A0 o0 s0 H0 E0 A outer s H E f k hr
    · cases h; exact fun A outer s H E f k hr => lb_42_7 F fA cdv A0 o0 s0 H0 E0 A outer s H E f k hr
    · cases h; exact fun A outer s H E f k hr => lb_42_8 F fA cdv A0 o0 s0 H0 E0 A outer s H E f k hr
    · cases h; exact fun A outer s H E f k hr => lb_42_9 F fA cdv A0 o0 s0 H0 E0 A outer s H E f k hr
    · cases h; exact fun A outer s H E f k hr => lb_42_10 F fA cdv A0 o0 s0 H0 E0 A outer s H E f k hr
    · cases h; exact fun A outer s H E f k hr => lb_42_11 F fA cdv A0 o0 s0 H0 E0 A outer s H E f k hr
    · cases h
  exact (pss_consS (ps_asgS (eTup (pa_consD rfl (eFn false C F.c__law_some_1 L42_0__law_some Nm__law_some rfl (pa_consD rfl (eVar (i := 0) rfl (.inl L42_0_dice) Nm_dice) pa_nilD) (consA_len nilA_len) rfl) (pa_consD rfl (eFn false C F.c__law_some_1 L42_0__law_some Nm__law_some rfl (pa_consD rfl (eVar (i := 0) rfl (.inl L42_0_dice) Nm_dice) pa_nilD) (consA_len nilA_len) rfl) pa_nilD))) (pg_tupD C.K C.calm rfl rfl (pgs_consD C.nd rfl (.inr L42_0_value) (.inl rfl) (pgs_consD C.nd rfl (.inr L42_0_wrong) (.inl rfl) pgs_nilD))) rfl (by kernel_rfl) rfl)
  (pss_consS (ps_parS (i := 1) (j := 2) C.calm C.nd rfl rfl (by decide) L42_0_is_whole L42_0_bad (pa_consD rfl (eAnd C (eIsi C .int L42_0_isinstance F.b_isinstance L42_0_int F.b_int (by decide +kernel) Nm_int rfl (eVar (i := 9) rfl (.inr (.inl L42_0_value)) Nm_value)) (pv_one (eNot C (eIsi C .bool L42_0_isinstance F.b_isinstance L42_0_bool F.b_bool (by decide +kernel) Nm_bool rfl (eVar (i := 9) rfl (.inr (.inl L42_0_value)) Nm_value))))) (pa_consD rfl (eNot C (eFn true C F.c__law_is_number_1 L42_0__law_is_number Nm__law_is_number rfl (pa_consD rfl (eVar (i := 9) rfl (.inr (.inl L42_0_value)) Nm_value) pa_nilD) (consA_len nilA_len) rfl)) pa_nilD)) (by kernel_rfl))
  (pss_consS (ps_ifS (tCp C .NotEq (eB reprD_noX (cr_reprD C.K C.room.g C.u65) L42_0_repr F.b_repr (by decide +kernel) Nm_repr rfl (pa_consD rfl (eLst false (pa_consD rfl (eFn true C F.c_is_integer_1 L42_0_is_integer Nm_is_integer rfl (pa_consD rfl (eVar (i := 9) rfl (.inr (.inl L42_0_value)) Nm_value) pa_nilD) (consA_len nilA_len) rfl) (pa_consD rfl (eFn true C F.c_is_name_1 L42_0_is_name Nm_is_name rfl (pa_consD rfl (eVar (i := 9) rfl (.inr (.inl L42_0_value)) Nm_value) pa_nilD) (consA_len nilA_len) rfl) (pa_consD rfl (eFn true C F.c_is_number_1 L42_0_is_number Nm_is_number rfl (pa_consD rfl (eVar (i := 9) rfl (.inr (.inl L42_0_value)) Nm_value) pa_nilD) (consA_len nilA_len) rfl) pa_nilD)))) pa_nilD)) (eB reprD_noX (cr_reprD C.K C.room.g C.u65) L42_0_repr F.b_repr (by decide +kernel) Nm_repr rfl (pa_consD rfl (eLst false (pa_consD rfl (eVar (i := 1) rfl (.inl L42_0_is_whole) Nm_is_whole) (pa_consD rfl (eFn true C F.c__law_is_name_1 L42_0__law_is_name Nm__law_is_name rfl (pa_consD rfl (eVar (i := 9) rfl (.inr (.inl L42_0_value)) Nm_value) pa_nilD) (consA_len nilA_len) rfl) (pa_consD rfl (eNot C (eVar (i := 2) rfl (.inl L42_0_bad) Nm_bad)) pa_nilD)))) pa_nilD)) rfl) (pss_oneS (ps_retS pv_bl)) pss_nilS)
  (pss_consS (ps_asgS (eTup (pa_consD rfl (eTup (pa_consD rfl pv_int (pa_consD rfl pv_int pa_nilD))) (pa_consD rfl (pv_if (tPl C rfl (eVar (i := 2) rfl (.inl L42_0_bad) Nm_bad)) (eStr (by decide +kernel)) (eStr (by decide +kernel))) pa_nilD))) (pg_tupD C.K C.calm rfl rfl (pgs_consD C.nd rfl (.inr L42_0_one) (.inl rfl) (pgs_consD C.nd rfl (.inl L42_0_plain) (.inl rfl) pgs_nilD))) rfl (by kernel_rfl) rfl)
  (pss_consS (ps_setS (i := 4) C.nd rfl (.inl L42_0_told) (.inl rfl) (eLst false (pa_consD rfl (eWord (L := L_42) (lams := lams_42) (N := 2) (mw := m__law_word) (C3.mono (by omega)) F.w__law_word L42_0__law_word Nm__law_word ls_42 LB (pv_lam (L := L_42) (j := 0) (d := lm_42_0) (fun _ _ _ h => h) rfl TB hcd m1 m2 rfl lo_42_0.s) rfl) (pa_consD rfl (eWord (L := L_42) (lams := lams_42) (N := 2) (mw := m__law_word) (C3.mono (by omega)) F.w__law_word L42_0__law_word Nm__law_word ls_42 LB (pv_lam (L := L_42) (j := 1) (d := lm_42_1) (fun _ _ _ h => h) rfl TB hcd m1 m2 rfl lo_42_1.s) rfl) pa_nilD))) (eSet0 rfl))
  (pss_consS (ps_setS (i := 4) C.nd rfl (.inl L42_0_told) (.inl rfl) (eAdd C false (eVar (i := 4) rfl (.inl L42_0_told) Nm_told) (eLst false (pa_consD rfl (eWord (L := L_42) (lams := lams_42) (N := 2) (mw := m__law_word) (C3.mono (by omega)) F.w__law_word L42_0__law_word Nm__law_word ls_42 LB (pv_lam (L := L_42) (j := 2) (d := lm_42_2) (fun _ _ _ h => h) rfl TB hcd m1 m2 rfl lo_42_2.s) rfl) (pa_consD rfl (eWord (L := L_42) (lams := lams_42) (N := 2) (mw := m__law_word) (C3.mono (by omega)) F.w__law_word L42_0__law_word Nm__law_word ls_42 LB (pv_lam (L := L_42) (j := 3) (d := lm_42_3) (fun _ _ _ h => h) rfl TB hcd m1 m2 rfl lo_42_3.s) rfl) pa_nilD)))) (eSet0 rfl))
  (pss_consS (ps_setS (i := 5) C.nd rfl (.inl L42_0_due) (.inl rfl) (eAdd C true (eLst false (pa_consD rfl (pv_if (PW.pt (pw_andD (pt_notD (tPl C rfl (eVar (i := 2) rfl (.inl L42_0_bad) Nm_bad))) (pw_and1D (tPl C rfl (eFn true C F.c__law_is_number_1 L42_0__law_is_number Nm__law_is_number rfl (pa_consD rfl (eVar (i := 10) rfl (.inr (.inl L42_0_wrong)) Nm_wrong) pa_nilD) (consA_len nilA_len) rfl))))) (eStr (by decide +kernel)) (eStr (by decide +kernel))) pa_nilD)) (eMul C false (eLst true (pa_consD rfl (eVar (i := 3) rfl (.inl L42_0_plain) Nm_plain) pa_nilD)) pv_int)) (eSet0 rfl))
  (pss_consS (ps_setS (i := 4) C.nd rfl (.inl L42_0_told) (.inl rfl) (eAdd C false (eVar (i := 4) rfl (.inl L42_0_told) Nm_told) (eLst false (pa_consD rfl (eWord (L := L_42) (lams := lams_42) (N := 2) (mw := m__law_word) (C3.mono (by omega)) F.w__law_word L42_0__law_word Nm__law_word ls_42 LB (pv_lam (L := L_42) (j := 4) (d := lm_42_4) (fun _ _ _ h => h) rfl TB hcd m1 m2 rfl lo_42_4.s) rfl) (pa_consD rfl (eWord (L := L_42) (lams := lams_42) (N := 2) (mw := m__law_word) (C3.mono (by omega)) F.w__law_word L42_0__law_word Nm__law_word ls_42 LB (pv_lam (L := L_42) (j := 5) (d := lm_42_5) (fun _ _ _ h => h) rfl TB hcd m1 m2 rfl lo_42_5.s) rfl) pa_nilD)))) (eSet0 rfl))
  (pss_consS (ps_setS (i := 5) C.nd rfl (.inl L42_0_due) (.inl rfl) (eAdd C true (eVar (i := 5) rfl (.inl L42_0_due) Nm_due) (eLst false (pa_consD rfl (pv_if (tPl C rfl (eVar (i := 2) rfl (.inl L42_0_bad) Nm_bad)) (eStr (by decide +kernel)) (eStr (by decide +kernel))) pa_nilD))) (eSet0 rfl))
  (pss_consS (ps_exprS (eApp (eVar (i := 5) rfl (.inl L42_0_due) Nm_due) (pv_if (tCp C .Eq (eB reprD_noX (cr_reprD C.K C.room.g C.u65) L42_0_repr F.b_repr (by decide +kernel) Nm_repr rfl (pa_consD rfl (eVar (i := 9) rfl (.inr (.inl L42_0_value)) Nm_value) pa_nilD)) (eStr (by decide +kernel)) rfl) (eStr (by decide +kernel)) (eVar (i := 3) rfl (.inl L42_0_plain) Nm_plain)) rfl rfl rfl) (eSet0 rfl))
  (pss_consS (ps_setS (i := 4) C.nd rfl (.inl L42_0_told) (.inl rfl) (eAdd C false (eVar (i := 4) rfl (.inl L42_0_told) Nm_told) (eLst false (pa_consD rfl (eWord (L := L_42) (lams := lams_42) (N := 2) (mw := m__law_word) (C3.mono (by omega)) F.w__law_word L42_0__law_word Nm__law_word ls_42 LB (pv_lam (L := L_42) (j := 6) (d := lm_42_6) (fun _ _ _ h => h) rfl TB hcd m1 m2 rfl lo_42_6.s) rfl) (pa_consD rfl (eWord (L := L_42) (lams := lams_42) (N := 2) (mw := m__law_word) (C3.mono (by omega)) F.w__law_word L42_0__law_word Nm__law_word ls_42 LB (pv_lam (L := L_42) (j := 7) (d := lm_42_7) (fun _ _ _ h => h) rfl TB hcd m1 m2 rfl lo_42_7.s) rfl) pa_nilD)))) (eSet0 rfl))
  (pss_consS (ps_setS (i := 5) C.nd rfl (.inl L42_0_due) (.inl rfl) (eAdd C true (eVar (i := 5) rfl (.inl L42_0_due) Nm_due) (eLst false (pa_consD rfl (eVar (i := 3) rfl (.inl L42_0_plain) Nm_plain) (pa_consD rfl (pv_if (tCp C .Eq (eB reprD_noX (cr_reprD C.K C.room.g C.u65) L42_0_repr F.b_repr (by decide +kernel) Nm_repr rfl (pa_consD rfl (eVar (i := 9) rfl (.inr (.inl L42_0_value)) Nm_value) pa_nilD)) (eStr (by decide +kernel)) rfl) (eStr (by decide +kernel)) (eStr (by decide +kernel))) pa_nilD)))) (eSet0 rfl))
  (pss_consS (ps_setS (i := 4) C.nd rfl (.inl L42_0_told) (.inl rfl) (eAdd C false (eVar (i := 4) rfl (.inl L42_0_told) Nm_told) (eLst false (pa_consD rfl (eWord (L := L_42) (lams := lams_42) (N := 2) (mw := m__law_word) (C3.mono (by omega)) F.w__law_word L42_0__law_word Nm__law_word ls_42 LB (pv_lam (L := L_42) (j := 8) (d := lm_42_8) (fun _ _ _ h => h) rfl TB hcd m1 m2 rfl lo_42_8.s) rfl) (pa_consD rfl (eWord (L := L_42) (lams := lams_42) (N := 2) (mw := m__law_word) (C3.mono (by omega)) F.w__law_word L42_0__law_word Nm__law_word ls_42 LB (pv_lam (L := L_42) (j := 9) (d := lm_42_9) (fun _ _ _ h => h) rfl TB hcd m1 m2 rfl lo_42_9.s) rfl) pa_nilD)))) (eSet0 rfl))
  (pss_consS (ps_setS (i := 5) C.nd rfl (.inl L42_0_due) (.inl rfl) (eAdd C true (eVar (i := 5) rfl (.inl L42_0_due) Nm_due) (eLst false (pa_consD rfl (pv_if (tPl C rfl (eVar (i := 2) rfl (.inl L42_0_bad) Nm_bad)) (eStr (by decide +kernel)) (eStr (by decide +kernel))) pa_nilD))) (eSet0 rfl))
  (pss_consS (ps_exprS (eApp (eVar (i := 5) rfl (.inl L42_0_due) Nm_due) (pv_if (PW.pt (pw_andD (tPl C rfl (eVar (i := 1) rfl (.inl L42_0_is_whole) Nm_is_whole)) (pw_and1D (tCp2 C .LtE .LtE pv_int (eVar (i := 9) rfl (.inr (.inl L42_0_value)) Nm_value) pv_int rfl)))) (eStr (by decide +kernel)) (eAdd C false (eStr (by decide +kernel)) (eB reprD_noX (cr_reprD C.K C.room.g C.u65) L42_0_repr F.b_repr (by decide +kernel) Nm_repr rfl (pa_consD rfl (eVar (i := 9) rfl (.inr (.inl L42_0_value)) Nm_value) pa_nilD)))) rfl rfl rfl) (eSet0 rfl))
  (pss_consS (ps_ifS (tCp C .NotEq (eVar (i := 4) rfl (.inl L42_0_told) Nm_told) (eVar (i := 5) rfl (.inl L42_0_due) Nm_due) rfl) (pss_oneS (ps_retS pv_bl)) pss_nilS)
  (pss_consS (ps_setS (i := 6) C.nd rfl (.inl L42_0_is_top) (.inl rfl) (eAnd C (eVar (i := 1) rfl (.inl L42_0_is_whole) Nm_is_whole) (pv_one (eCmp C .Lt (eB absD_noX cr_absD L42_0_abs F.b_abs (by decide +kernel) Nm_abs rfl (pa_consD rfl (eVar (i := 9) rfl (.inr (.inl L42_0_value)) Nm_value) pa_nilD)) (ePow pv_int pv_int) rfl))) (eSet0 rfl))
  (pss_consS (ps_setS (i := 7) C.nd rfl (.inl L42_0_is_bottom) (.inl rfl) (eAnd C (eIsi C .int L42_0_isinstance F.b_isinstance L42_0_int F.b_int (by decide +kernel) Nm_int rfl (eVar (i := 10) rfl (.inr (.inl L42_0_wrong)) Nm_wrong)) (eAnd C (eNot C (eIsi C .bool L42_0_isinstance F.b_isinstance L42_0_bool F.b_bool (by decide +kernel) Nm_bool rfl (eVar (i := 10) rfl (.inr (.inl L42_0_wrong)) Nm_wrong))) (eAnd C (eCmp C .Lt (eB absD_noX cr_absD L42_0_abs F.b_abs (by decide +kernel) Nm_abs rfl (pa_consD rfl (eVar (i := 10) rfl (.inr (.inl L42_0_wrong)) Nm_wrong) pa_nilD)) (ePow pv_int pv_int) rfl) (pv_one (eCmp C .NotEq (eVar (i := 10) rfl (.inr (.inl L42_0_wrong)) Nm_wrong) pv_int rfl))))) (eSet0 rfl))
  (pss_consS (ps_setS (i := 4) C.nd rfl (.inl L42_0_told) (.inl rfl) (eLst false (pa_consD rfl (eWord (L := L_42) (lams := lams_42) (N := 2) (mw := m__law_word) (C3.mono (by omega)) F.w__law_word L42_0__law_word Nm__law_word ls_42 LB (pv_lam (L := L_42) (j := 10) (d := lm_42_10) (fun _ _ _ h => h) rfl TB hcd m1 m2 rfl lo_42_10.s) rfl) (pa_consD rfl (eWord (L := L_42) (lams := lams_42) (N := 2) (mw := m__law_word) (C3.mono (by omega)) F.w__law_word L42_0__law_word Nm__law_word ls_42 LB (pv_lam (L := L_42) (j := 11) (d := lm_42_11) (fun _ _ _ h => h) rfl TB hcd m1 m2 rfl lo_42_11.s) rfl) pa_nilD))) (eSet0 rfl))
  (pss_consS (ps_setS (i := 5) C.nd rfl (.inl L42_0_due) (.inl rfl) (pv_if (pt_notD (tPl C rfl (eVar (i := 6) rfl (.inl L42_0_is_top) Nm_is_top))) (eAdd C true (eStr (by decide +kernel)) (eB reprD_noX (cr_reprD C.K C.room.g C.u65) L42_0_repr F.b_repr (by decide +kernel) Nm_repr rfl (pa_consD rfl (eVar (i := 9) rfl (.inr (.inl L42_0_value)) Nm_value) pa_nilD))) (pv_if (tPl C rfl (eVar (i := 7) rfl (.inl L42_0_is_bottom) Nm_is_bottom)) (eStr (by decide +kernel)) (eAdd C true (eStr (by decide +kernel)) (eB reprD_noX (cr_reprD C.K C.room.g C.u65) L42_0_repr F.b_repr (by decide +kernel) Nm_repr rfl (pa_consD rfl (eVar (i := 10) rfl (.inr (.inl L42_0_wrong)) Nm_wrong) pa_nilD))))) (eSet0 rfl))
  (pss_oneS (ps_retS (eCmp C .Eq (eVar (i := 4) rfl (.inl L42_0_told) Nm_told) (eLst false (pa_consD rfl (eVar (i := 5) rfl (.inl L42_0_due) Nm_due) (pa_consD rfl (pv_if (PW.pt (pw_andD (tPl C rfl (eVar (i := 6) rfl (.inl L42_0_is_top) Nm_is_top)) (pw_and1D (tCp C .NotEq (eVar (i := 9) rfl (.inr (.inl L42_0_value)) Nm_value) pv_int rfl)))) (eStr (by decide +kernel)) (eAdd C false (eStr (by decide +kernel)) (eB reprD_noX (cr_reprD C.K C.room.g C.u65) L42_0_repr F.b_repr (by decide +kernel) Nm_repr rfl (pa_consD rfl (eVar (i := 9) rfl (.inr (.inl L42_0_value)) Nm_value) pa_nilD)))) pa_nilD))) rfl)))))))))))))))))))))))
/-! ### law -/
abbrev s_43 : Stmt := top 43
abbrev N_43 : List Str := ["script", "spot", "dice", "turn", "told"]
abbrev ps_43 : List Str := ["script"]
theorem sc_43 : FnScope N_43 ps_43 (defScope s_43) := ⟨rfl, rfl, rfl, by decide +kernel, rfl, by decide +kernel, by decide +kernel⟩
def lm_43_0 : LamD := lamOf (kidE 1 (kidE 0 (valS (atS (defBody s_43) 1))))
def lm_43_1 : LamD := lamOf (kidE 1 (kidE 1 (valS (atS (defBody s_43) 1))))
def lm_43_2 : LamD := lamOf (kidE 1 (kidE 0 (kidE 1 (valS (atS (defBody s_43) 2)))))
def lm_43_3 : LamD := lamOf (kidE 1 (kidE 1 (kidE 1 (valS (atS (defBody s_43) 2)))))
theorem L43_0_script : ((defScope s_43)).names.lookup ("script" : Str) = some NameKind.local := by kernel_rfl
theorem L43_0_len : ((defScope s_43)).names.lookup ("len" : Str) = some NameKind.globalImplicit := by kernel_rfl
theorem L43_0_min : ((defScope s_43)).names.lookup ("min" : Str) = some NameKind.globalImplicit := by kernel_rfl
theorem L43_0_max : ((defScope s_43)).names.lookup ("max" : Str) = some NameKind.globalImplicit := by kernel_rfl
theorem L43_0_range : ((defScope s_43)).names.lookup ("range" : Str) = some NameKind.globalImplicit := by kernel_rfl
theorem L43_0_spot : ((defScope s_43)).names.lookup ("spot" : Str) = some NameKind.local := by kernel_rfl
theorem L43_0__law_dice : ((defScope s_43)).names.lookup ("_law_dice" : Str) = some NameKind.globalImplicit := by kernel_rfl
theorem L43_0_dice : ((defScope s_43)).names.lookup ("dice" : Str) = some NameKind.local := by kernel_rfl
theorem L43_0_turn : ((defScope s_43)).names.lookup ("turn" : Str) = some NameKind.local := by kernel_rfl
theorem L43_0__law_right : ((defScope s_43)).names.lookup ("_law_right" : Str) = some NameKind.globalImplicit := by kernel_rfl
theorem L43_0__law_word : ((defScope s_43)).names.lookup ("_law_word" : Str) = some NameKind.globalImplicit := by kernel_rfl
theorem L43_0_told : ((defScope s_43)).names.lookup ("told" : Str) = some NameKind.local := by kernel_rfl
theorem L43_100_power : (lm_43_0.2.2).names.lookup ("power" : Str) = some NameKind.globalImplicit := by kernel_rfl
theorem L43_101_power : (lm_43_1.2.2).names.lookup ("power" : Str) = some NameKind.globalImplicit := by kernel_rfl
theorem L43_102_total : (lm_43_2.2.2).names.lookup ("total" : Str) = some NameKind.globalImplicit := by kernel_rfl
theorem L43_103_number : (lm_43_3.2.2).names.lookup ("number" : Str) = some NameKind.globalImplicit := by kernel_rfl
def L_43 : Nat → Option LamD := fun k => match k with
  | 0 => some lm_43_0
  | 1 => some lm_43_1
  | 2 => some lm_43_2
  | 3 => some lm_43_3
  | _ => none
def mb_43_0 : SE := (callF true n_power [] (consA (tupE (consA (cst (.int 1)) (consA (cst (.int 2)) nilA))) (consA (cst (.int 61)) nilA)))
def mb_43_1 : SE := (callF true n_power [] (consA (tupE (consA (cst (.int 1)) (consA (cst (.int 2)) nilA))) (consA (cst (.int 60)) nilA)))
def mb_43_2 : SE := (callF true n_total [] (consA (lstE false (consA (tupE (consA (cst (.int 1)) (consA (cst (.int 1)) nilA))) nilA)) nilA))
def mb_43_3 : SE := (callF true n_number [] (consA (cst (.int 1)) (consA (cst (.int 0)) nilA)))
def lams_43 : Nat → SE := fun k => match k with
  | 0 => mb_43_0
  | 1 => mb_43_1
  | 2 => mb_43_2
  | 3 => mb_43_3
  | _ => badE
def m_law_0b0 : SS := (setS 2 (callF false n__law_dice [] (consA (var 0) (consA (var 1) nilA))))
def m_law_0b1b0 : SS := (ifS (notT (truE (callF false n__law_right [] (consA (var 2) nilA)))) (retS (cst (.bl false))) nilS)
def m_law_0b1b : SS := m_law_0b1b0
def m_law_0b1 : SS := (forS (rngI1 (consA (cst (.int 8)) nilA)) (nameG 3) m_law_0b1b)
def m_law_0b : SS := (seqS m_law_0b0
  m_law_0b1)
def m_law_0 : SS := (forS (rngI1 (consA (callB max2D (consA (cst (.int 1)) (consA (callB min2D (consA (cst (.int 6)) (consA (callB lenD (consA (var 0) nilA)) nilA))) nilA))) nilA)) (nameG 1) m_law_0b)
def m_law_1 : SS := (setS 4 (lstE false (consA (wordE 2 m__law_word lams_43 (cloE 0)) (consA (wordE 2 m__law_word lams_43 (cloE 1)) nilA))))
def m_law_2 : SS := (setS 4 (binE (addD false) (var 4) (lstE false (consA (wordE 2 m__law_word lams_43 (cloE 2)) (consA (wordE 2 m__law_word lams_43 (cloE 3)) nilA)))))
def m_law_3 : SS := (retS (binE (cmpD .Eq) (var 4) (lstE false (consA (cst (.str [99, 111, 117, 110, 116, 32, 54, 49])) (consA (cst (.str [102, 105, 110, 101])) (consA (cst (.str [102, 114, 97, 99, 116, 105, 111, 110])) (consA (cst (.str [99, 111, 117, 110, 116, 32, 48])) nilA)))))))
abbrev X_43 (Pg : Program) (w : World) (mg : Str → Option Value) (base : Heap) (Z : Am) (fA : Addr) (cdv : Value) (A0 : Around) (o0 : List Env) (s0 : Shared) (H0 : Hp) (E0 : XK) : Cx := cxOf (L2.CX Pg w) Pg w Z.K mg base N_43 "law" (defScope s_43) fA cdv A0 o0 s0 H0 E0
theorem lo_43_0 : LamOk (defScope s_43) lm_43_0 := ⟨lamS_by (by decide +kernel), fun _ _ _ _ _ => rfl⟩
theorem lb_43_0 (F : Facts Pg w mg base Z rt n) (fA : Addr) (cdv : Value) (A0 : Around) (o0 : List Env) (s0 : Shared) (H0 : Hp) (E0 : XK) (A : Around) (outer : List Env) (s : Shared) (H : Hp) (E : XK) (f k : Addr) (hr : RoomG n (A.deeper (lamEnv (X_43 Pg w mg base Z fA cdv A0 o0 s0 H0 E0) lm_43_0.2.2 s.heap.objs.size f k))) :
    PE (lamCx (X_43 Pg w mg base Z fA cdv A0 o0 s0 H0 E0) A outer s H E lm_43_0.2.2 f k) lm_43_0.2.1 (tE Z rt (fun cls d _ H' => E cls d H') mb_43_0) := by
  have C : Ct (lamCx (X_43 Pg w mg base Z fA cdv A0 o0 s0 H0 E0) A outer s H E lm_43_0.2.2 f k) Z (fun cls d _ H' => E cls d H') n := ⟨rfl, rfl, sc_43.nd, hr, takes_of rfl rfl rfl rfl⟩
  exact (eFn true C F.c_power_2 L43_100_power Nm_power rfl (pa_consD rfl (eTup (pa_consD rfl pv_int (pa_consD rfl pv_int pa_nilD))) (pa_consD rfl pv_int pa_nilD)) (consA_len (consA_len nilA_len)) rfl)
theorem lo_43_1 : LamOk (defScope s_43) lm_43_1 := ⟨lamS_by (by decide +kernel), fun _ _ _ _ _ => rfl⟩
theorem lb_43_1 (F : Facts Pg w mg base Z rt n) (fA : Addr) (cdv : Value) (A0 : Around) (o0 : List Env) (s0 : Shared) (H0 : Hp) (E0 : XK) (A : Around) (outer : List Env) (s : Shared) (H : Hp) (E : XK) (f k : Addr) (hr : RoomG n (A.deeper (lamEnv (X_43 Pg w mg base Z fA cdv A0 o0 s0 H0 E0) lm_43_1.2.2 s.heap.objs.size f k))) :
    PE (lamCx (X_43 Pg w mg base Z fA cdv A0 o0 s0 H0 E0) A outer s H E lm_43_1.2.2 f k) lm_43_1.2.1 (tE Z rt (fun cls d _ H' => E cls d H') mb_43_1) := by
  have C : Ct (lamCx (X_43 Pg w mg base Z fA cdv A0 o0 s0 H0 E0) A outer s H E lm_43_1.2.2 f k) Z (fun cls d _ H' => E cls d H') n := ⟨rfl, rfl, sc_43.nd, hr, takes_of rfl rfl rfl rfl⟩
  exact (eFn true C F.c_power_2 L43_101_power Nm_power rfl (pa_consD rfl (eTup (pa_consD rfl pv_int (pa_consD rfl pv_int pa_nilD))) (pa_consD rfl pv_int pa_nilD)) (consA_len (consA_len nilA_len)) rfl)
theorem lo_43_2 : LamOk (defScope s_43) lm_43_2 := ⟨lamS_by (by decide +kernel), fun _ _ _ _ _ => rfl⟩
theorem lb_43_2 (F : Facts Pg w mg base Z rt n) (fA : Addr) (cdv : Value) (A0 : Around) (o0 : List Env) (s0 : Shared) (H0 : Hp) (E0 : XK) (A : Around) (outer : List Env) (s : Shared) (H : Hp) (E : XK) (f k : Addr) (hr : RoomG n (A.deeper (lamEnv (X_43 Pg w mg base Z fA cdv A0 o0 s0 H0 E0) lm_43_2.2.2 s.heap.objs.size f k))) :
    PE (lamCx (X_43 Pg w mg base Z fA cdv A0 o0 s0 H0 E0) A outer s H E lm_43_2.2.2 f k) lm_43_2.2.1 (tE Z rt (fun cls d _ H' => E cls d H') mb_43_2) := by
  have C : Ct (lamCx (X_43 Pg w mg base Z fA cdv A0 o0 s0 H0 E0) A outer s H E lm_43_2.2.2 f k) Z (fun cls d _ H' => E cls d H') n := ⟨rfl, rfl, sc_43.nd, hr, takes_of rfl rfl rfl rfl⟩
  exact (eFn true C F.c_total_1 L43_102_total Nm_total rfl (pa_consD rfl (eLst false (pa_consD rfl (eTup (pa_consD rfl pv_int (pa_consD rfl pv_int pa_nilD))) pa_nilD)) pa_nilD) (consA_len nilA_len) rfl)
theorem lo_43_3 : LamOk (defScope s_43) lm_43_3 := ⟨lamS_by (by decide +kernel), fun _ _ _ _ _ => rfl⟩
theorem lb_43_3 (F : Facts Pg w mg base Z rt n) (fA : Addr) (cdv : Value) (A0 : Around) (o0 : List Env) (s0 : Shared) (H0 : Hp) (E0 : XK) (A : Around) (outer : List Env) (s : Shared) (H : Hp) (E : XK) (f k : Addr) (hr : RoomG n (A.deeper (lamEnv (X_43 Pg w mg base Z fA cdv A0 o0 s0 H0 E0) lm_43_3.2.2 s.heap.objs.size f k))) :
    PE (lamCx (X_43 Pg w mg base Z fA cdv A0 o0 s0 H0 E0) A outer s H E lm_43_3.2.2 f k) lm_43_3.2.1 (tE Z rt (fun cls d _ H' => E cls d H') mb_43_3) := by
  have C : Ct (lamCx (X_43 Pg w mg base Z fA cdv A0 o0 s0 H0 E0) A outer s H E lm_43_3.2.2 f k) Z (fun cls d _ H' => E cls d H') n := ⟨rfl, rfl, sc_43.nd, hr, takes_of rfl rfl rfl rfl⟩
  exact (eFn true C F.c_number_2 L43_103_number Nm_number rfl (pa_consD rfl pv_int (pa_consD rfl pv_int pa_nilD)) (consA_len (consA_len nilA_len)) rfl)
theorem ls_43 : ∀ j d, L_43 j = some d → LamOk (defScope s_43) d := by
  intro j d h
  unfold L_43 at h
  split at h
  · cases h; exact lo_43_0
  · cases h; exact lo_43_1
  · cases h; exact lo_43_2
  · cases h; exact lo_43_3
  · cases h
def m_law : SS := (seqS m_law_0
  (seqS m_law_1
  (seqS m_law_2
  m_law_3)))
theorem b_43 (F0 : Facts Pg w mg base Z rt n) (pl : PlainRt rt) (fA : Addr) (cdv : Value) (A0 : Around) (o0 : List Env) (s0 : Shared) (H0 : Hp) (E0 : XK) {c tb : Addr} (hcd : cdv = .ref c) (TB : TabB base mg c tb) (m1 : (tb, ((envOfC "law" (defScope s_43) s0.heap.objs.size fA cdv).qual ++ "<lambda>")) ∈ Z.T) (m2 : ∀ p ∈ Z.T, p.1 = tb → p.2 = ((envOfC "law" (defScope s_43) s0.heap.objs.size fA cdv).qual ++ "<lambda>")) (hr : RoomG (n + 3) (A0.deeper (envOfC "law" (defScope s_43) s0.heap.objs.size fA cdv))) :
    PSs (X_43 Pg w mg base Z fA cdv A0 o0 s0 H0 E0) (defBody s_43) (tS (Zf Z ((envOfC "law" (defScope s_43) s0.heap.objs.size fA cdv).qual ++ "<lambda>") (envOfC "law" (defScope s_43) s0.heap.objs.size fA cdv).cells L_43) rt (fun cls d _ H' => E0 cls d H') m_law) := by
  have F : Facts Pg w mg base (Zf Z ((envOfC "law" (defScope s_43) s0.heap.objs.size fA cdv).qual ++ "<lambda>") (envOfC "law" (defScope s_43) s0.heap.objs.size fA cdv).cells L_43) rt n := F0.lam pl (fun u ρ H h => by obtain ⟨d, k, e, _⟩ := h; cases (show (none : Option LamD) = some d from e))
  have C3 : Ct (X_43 Pg w mg base Z fA cdv A0 o0 s0 H0 E0) (Zf Z ((envOfC "law" (defScope s_43) s0.heap.objs.size fA cdv).qual ++ "<lambda>") (envOfC "law" (defScope s_43) s0.heap.objs.size fA cdv).cells L_43) (fun cls d _ H' => E0 cls d H') (n + 3) := ⟨rfl, rfl, sc_43.nd, hr, takes_of rfl rfl rfl rfl⟩
  have C : Ct (X_43 Pg w mg base Z fA cdv A0 o0 s0 H0 E0) (Zf Z ((envOfC "law" (defScope s_43) s0.heap.objs.size fA cdv).qual ++ "<lambda>") (envOfC "law" (defScope s_43) s0.heap.objs.size fA cdv).cells L_43) (fun cls d _ H' => E0 cls d H') n := C3.mono (by omega)
  have LB : ∀ j d, L_43 j = some d → ∀ (A : Around) (outer : List Env) (s : Shared) (H : Hp) (E : XK) (f k : Addr), RoomG n (A.deeper (lamEnv (X_43 Pg w mg base Z fA cdv A0 o0 s0 H0 E0) d.2.2 s.heap.objs.size f k)) → PE (lamCx (X_43 Pg w mg base Z fA cdv A0 o0 s0 H0 E0) A outer s H E d.2.2 f k) d.2.1 (tE (Zf Z ((envOfC "law" (defScope s_43) s0.heap.objs.size fA cdv).qual ++ "<lambda>") (envOfC "law" (defScope s_43) s0.heap.objs.size fA cdv).cells L_43) rt (fun cls d _ H' => E cls d H') (lams_43 j)) := by
    intro j d h
    unfold L_43 at h
    split at h
    · cases h; exact fun A outer s H E f k hr => lb_43_0 F fA cdv A0 o0 s0 H0 E0 A outer s H E f k hr
    · cases h; exact fun A outer s H E f k hr => lb_43_1 F fA cdv A0 o0 s0 H0 E0 A outer s H E f k hr
    · cases h; exact fun A outer s H E f k hr => lb_43_2 F fA cdv A0 o0 s0 H0 E0 A outer s H E f k hr
    · cases h; exact fun A outer s H E f k hr => lb_43_3 F fA cdv A0 o0 s0 H0 E0 A outer s H E f k hr
    · cases h
  have po : PassesOwn (model Pg w) (A0.deeper (envOfC "law" (defScope s_43) s0.heap.objs.size fA cdv)) (envOfC "law" (defScope s_43) s0.heap.objs.size fA cdv) (X_43 Pg w mg base Z fA cdv A0 o0 s0 H0 E0).xe := passes_of (X := (X_43 Pg w mg base Z fA cdv A0 o0 s0 H0 E0)) rfl
  exact (pss_consS (ps_forS C.K po C.calm (iR1 L43_0_range F.b_range (pa_consD rfl (eB max2D_noX (cr_max2D C.calm) L43_0_max F.b_max (by decide +kernel) Nm_max rfl (pa_consD rfl pv_int (pa_consD rfl (eB min2D_noX (cr_min2D C.calm) L43_0_min F.b_min (by decide +kernel) Nm_min rfl (pa_consD rfl pv_int (pa_consD rfl (eB lenD_noX (cr_lenD C.K) L43_0_len F.b_len (by decide +kernel) Nm_len rfl (pa_consD rfl (eVar (i := 0) rfl (.inl L43_0_script) Nm_script) pa_nilD)) pa_nilD))) pa_nilD))) pa_nilD) rfl) (pg_nameD C.nd rfl (.inl L43_0_spot) (.inl rfl)) (pss_consS (ps_setS (i := 2) C.nd rfl (.inl L43_0_dice) (.inl rfl) (eFn false C F.c__law_dice_2 L43_0__law_dice Nm__law_dice rfl (pa_consD rfl (eVar (i := 0) rfl (.inl L43_0_script) Nm_script) (pa_consD rfl (eVar (i := 1) rfl (.inl L43_0_spot) Nm_spot) pa_nilD)) (consA_len (consA_len nilA_len)) rfl) (eSet0 rfl))
  (pss_oneS (ps_forS C.K po C.calm (iR1 L43_0_range F.b_range (pa_consD rfl pv_int pa_nilD) rfl) (pg_nameD C.nd rfl (.inl L43_0_turn) (.inl rfl)) (pss_oneS (ps_ifS (pt_notD (tPl C rfl (eFn false C F.c__law_right_1 L43_0__law_right Nm__law_right rfl (pa_consD rfl (eVar (i := 2) rfl (.inl L43_0_dice) Nm_dice) pa_nilD) (consA_len nilA_len) rfl))) (pss_oneS (ps_retS pv_bl)) pss_nilS)) (fold_of rfl)))) (fold_of rfl))
  (pss_consS (ps_setS (i := 4) C.nd rfl (.inl L43_0_told) (.inl rfl) (eLst false (pa_consD rfl (eWord (L := L_43) (lams := lams_43) (N := 2) (mw := m__law_word) (C3.mono (by omega)) F.w__law_word L43_0__law_word Nm__law_word ls_43 LB (pv_lam (L := L_43) (j := 0) (d := lm_43_0) (fun _ _ _ h => h) rfl TB hcd m1 m2 rfl lo_43_0.s) rfl) (pa_consD rfl (eWord (L := L_43) (lams := lams_43) (N := 2) (mw := m__law_word) (C3.mono (by omega)) F.w__law_word L43_0__law_word Nm__law_word ls_43 LB (pv_lam (L := L_43) (j := 1) (d := lm_43_1) (fun _ _ _ h => h) rfl TB hcd m1 m2 rfl lo_43_1.s) rfl) pa_nilD))) (eSet0 rfl))
  (pss_consS (ps_setS (i := 4) C.nd rfl (.inl L43_0_told) (.inl rfl) (eAdd C false (eVar (i := 4) rfl (.inl L43_0_told) Nm_told) (eLst false (pa_consD rfl (eWord (L := L_43) (lams := lams_43) (N := 2) (mw := m__law_word) (C3.mono (by omega)) F.w__law_word L43_0__law_word Nm__law_word ls_43 LB (pv_lam (L := L_43) (j := 2) (d := lm_43_2) (fun _ _ _ h => h) rfl TB hcd m1 m2 rfl lo_43_2.s) rfl) (pa_consD rfl (eWord (L := L_43) (lams := lams_43) (N := 2) (mw := m__law_word) (C3.mono (by omega)) F.w__law_word L43_0__law_word Nm__law_word ls_43 LB (pv_lam (L := L_43) (j := 3) (d := lm_43_3) (fun _ _ _ h => h) rfl TB hcd m1 m2 rfl lo_43_3.s) rfl) pa_nilD)))) (eSet0 rfl))
  (pss_oneS (ps_retS (eCmp C .Eq (eVar (i := 4) rfl (.inl L43_0_told) Nm_told) (eLst false (pa_consD rfl (eStr (by decide +kernel)) (pa_consD rfl (eStr (by decide +kernel)) (pa_consD rfl (eStr (by decide +kernel)) (pa_consD rfl (eStr (by decide +kernel)) pa_nilD))))) rfl))))))
end
/-! ### the table -/
def T : Tbl := fun k => match k with
  | 13 => some (1, m_is_integer)
  | 14 => some (2, m_is_name)
  | 15 => some (2, m_common_divisor)
  | 16 => some (2, m_is_number)
  | 17 => some (3, m_reduced)
  | 18 => some (2, m_number)
  | 19 => some (1, m_require_number)
  | 20 => some (3, m_require_count)
  | 21 => some (2, m_added)
  | 22 => some (2, m_multiplied)
  | 23 => some (1, m_opposite)
  | 24 => some (2, m_divided)
  | 25 => some (3, m_sum_of)
  | 26 => some (2, m_plus)
  | 27 => some (2, m_minus)
  | 28 => some (2, m_times)
  | 29 => some (2, m_over)
  | 30 => some (4, m_compared)
  | 31 => some (2, m_total)
  | 32 => some (4, m_power)
  | 34 => some (5, m__law_dice)
  | 35 => some (5, m__law_roll)
  | 36 => some (2, m__law_pick)
  | 37 => some (5, m__law_fr)
  | 38 => some (2, m__law_is_number)
  | 40 => some (2, m__law_is_name)
  | 41 => some (2, m__law_some)
  | 42 => some (11, m__law_right)
  | 43 => some (5, m_law)
  | _ => none
def Lf : Nat := 2 ^ 9000
abbrev rtk (n : Nat) : Rt := rtN T Lf n
end Lw
namespace Lw
open PySem PySem.Spec PyProof.Rows L2 FW
@[simp] theorem z_oneL1 (n : Nat) (ds : List D) : oneL (.loc n :: ds) = (match allP ds with
  | some xs => some (n, .loc 0 :: xs.map .p)
  | none => none) := rfl
@[simp] theorem z_oneL2 (x : P) (ds : List D) : oneL (.p x :: ds) = (match oneL ds with
  | some (n, es) => some (n, .p x :: es)
  | none => none) := rfl
@[simp] theorem z_allPl (n : Nat) (ds : List D) : allP (.loc n :: ds) = none := rfl
@[simp] theorem ar_at0 (c : List P) : (arena1 c).at_ 0 = some c := rfl
/-- the dice's list: three whole numbers -/
def DcOk (B : Nat) (c : List P) : Prop := ∃ x y z : Int, c = [.int x, .int y, .int z] ∧ 0 ≤ x ∧ y.natAbs < 2 ^ 100 ∧ z.natAbs ≤ B
theorem DcOk.mono {B C : Nat} {c : List P} (h : DcOk B c) (l : B ≤ C) : DcOk C c := by
  obtain ⟨x, y, z, h1, h2, h3, h4⟩ := h
  exact ⟨x, y, z, h1, h2, h3, by omega⟩
theorem put_at {M : Mem} {k : Nat} {c : List P} : (M.put k c).at_ k = some c := by simp [Mem.put]
section
variable {n : Nat}
theorem ix0 {k : Nat} {M : Mem} {a b c : P} (h : M.at_ k = some [a, b, c]) : idxD (.loc k) (.p (.int 0)) M = .ok (.p a) M := idx_loc h rfl
theorem ix1 {k : Nat} {M : Mem} {a b c : P} (h : M.at_ k = some [a, b, c]) : idxD (.loc k) (.p (.int 1)) M = .ok (.p b) M := idx_loc h rfl
theorem ix2 {k : Nat} {M : Mem} {a b c : P} (h : M.at_ k = some [a, b, c]) : idxD (.loc k) (.p (.int 2)) M = .ok (.p c) M := idx_loc h rfl
theorem c_roll {B : Nat} {c : List P} {m : Int} (h : DcOk B c) (h0 : 0 < m) (hm : m.natAbs < 2 ^ 100) (hB : B < 2 ^ 100) :
    ∃ r M' c', (rtk (n + 1)).call n__law_roll [.loc 0, .p (.int m)] (arena1 c) = .ok (.p (.int r)) M' ∧ 0 ≤ r ∧ r < m ∧ M'.at_ 0 = some c' ∧ DcOk (B + 1) c' := by
  obtain ⟨x, y, z, hc, hx, hy, hz⟩ := h
  have hM : (arena1 c).at_ 0 = some [.int x, .int y, .int z] := by rw [← hc]; rfl
  generalize arena1 c = M at hM
  rw [rt_call (N := 5) (m := m__law_roll) rfl]
  unfold runS m__law_roll
  have i0 := ix0 hM
  have i1 := ix1 hM
  have i2 := ix2 hM
  have dv : ∀ (i : Int) M, fdivD (.p (.int i)) (.p (.int m)) M = .ok (.p (.int (i / m))) M := fun i M => div_ok (b := 100) h0 hm (by decide)
  have md : ∀ (i : Int) M, modD (.p (.int i)) (.p (.int m)) M = .ok (.p (.int (i % m))) M := fun i M => modD_int h0
  by_cases hp : 0 < x
  · refine ⟨x % m, M.put 0 [.int (x / m), .int y, .int z], _, ?_, Int.emod_nonneg _ (by omega), Int.emod_lt_of_pos _ h0, put_at, _, _, _, rfl, Int.ediv_nonneg hx (by omega), hy, by omega⟩
    have e : ixN 3 0 = some 0 := rfl
    simp [i0, hp, md, dv, setSubS, hM, e]
  · have hM2 : (M.put 0 [.int x, .int y, .int (z + 1)]).at_ 0 = some [.int x, .int y, .int (z + 1)] := put_at
    have j1 := ix1 hM2
    have j2 := ix2 hM2
    have e : ixN 3 2 = some 2 := rfl
    have m0 : ∀ M, mulD false (.p (.int 49979687)) (.p (.int (z + 1))) M = .ok (.p (.int (49979687 * (z + 1)))) M := fun M => mul_ok (a := 100) (b := 101) (by decide) (by omega) (by decide)
    have m1 : ∀ (i : Int) M, modD (.p (.int i)) (.p (.int 2305843009213693951)) M = .ok (.p (.int (i % 2305843009213693951))) M := fun i M => modD_int (by decide)
    have m2 : ∀ (i : Int) M, modD (.p (.int i)) (.p (.int 2305843009213693921)) M = .ok (.p (.int (i % 2305843009213693921))) M := fun i M => modD_int (by decide)
    obtain ⟨u, hu⟩ : ∃ u, u = (y + 49979687 * (z + 1)) % 2305843009213693951 := ⟨_, rfl⟩
    have u1 : u.natAbs < 2 ^ 100 := by
      have a := Int.emod_nonneg (y + 49979687 * (z + 1)) (show (2305843009213693951 : Int) ≠ 0 by decide)
      have b := Int.emod_lt_of_pos (y + 49979687 * (z + 1)) (show (0 : Int) < 2305843009213693951 by decide)
      rw [← hu] at a b
      omega
    have m3 : ∀ M, mulD false (.p (.int u)) (.p (.int u)) M = .ok (.p (.int (u * u))) M := fun M => mul_ok u1 u1 (by decide)
    have m4 : ∀ M, mulD false (.p (.int 131)) (.p (.int (z + 1))) M = .ok (.p (.int (131 * (z + 1)))) M := fun M => mul_ok (a := 100) (b := 101) (by decide) (by omega) (by decide)
    obtain ⟨v, hv⟩ : ∃ v, v = (u * u + 131 * (z + 1)) % 2305843009213693921 := ⟨_, rfl⟩
    have v1 : v.natAbs < 2 ^ 100 := by
      have a := Int.emod_nonneg (u * u + 131 * (z + 1)) (show (2305843009213693921 : Int) ≠ 0 by decide)
      have b := Int.emod_lt_of_pos (u * u + 131 * (z + 1)) (show (0 : Int) < 2305843009213693921 by decide)
      rw [← hv] at a b
      omega
    have m5 : ∀ M, mulD false (.p (.int v)) (.p (.int 32452843)) M = .ok (.p (.int (v * 32452843))) M := fun M => mul_ok (b := 100) v1 (by decide) (by decide)
    have d5 : ∀ (i : Int) M, fdivD (.p (.int i)) (.p (.int 65587)) M = .ok (.p (.int (i / 65587))) M := fun i M => div_ok (b := 100) (by decide) (by decide) (by decide)
    refine ⟨((v * 32452843 + u) / 65587) % m, M.put 0 [.int x, .int y, .int (z + 1)], _, ?_, Int.emod_nonneg _ (by omega), Int.emod_lt_of_pos _ h0, put_at, _, _, _, rfl, hx, hy, by omega⟩
    simp [i0, i2, hp, md, setSubS, hM, e, j1, j2, m0, m1, m2, ← hu, m3, m4, ← hv, m5, d5]
theorem c_pick {B : Nat} {c : List P} {ds : List P} (h : DcOk B c) (h0 : 0 < ds.length) (hm : ds.length < 1000) (hB : B < 2 ^ 100) :
    ∃ i M' c', (rtk (n + 2)).call n__law_pick [.loc 0, .p (.lst ds)] (arena1 c) = .ok (.p (ds.getD i .non)) M' ∧ i < ds.length ∧ M'.at_ 0 = some c' ∧ DcOk (B + 1) c' := by
  rw [rt_call (N := 2) (m := m__law_pick) rfl]
  unfold runS m__law_pick
  obtain ⟨r, M', c', h1, h2, h3, h4, h5⟩ := c_roll (n := n) (m := ds.length) h (by omega) (by omega) hB
  refine ⟨r.toNat, _, c', ?_, by omega, put_at (M := arena1 c) (k := 0), h5⟩
  have e : atL ds r = some (ds.getD r.toNat .non) := by
    obtain ⟨m, rfl⟩ := Int.eq_ofNat_of_zero_le h2
    show ds[m]? = _
    rw [List.getElem?_eq_getElem (by omega)]
    simp
    rw [List.getElem?_eq_getElem (by omega)]
    rfl
  have ix := idx_lst (M := (arena1 c).put 0 c') e
  simp [h1, h4, ix]
variable {M : Mem}
theorem new_at {M : Mem} {c : List P} : (M.new c).at_ M.nx = some c := by simp [Mem.new]
theorem c_dice {ns : List Int} {sp : Nat} (hs : sp < 1000) : ∃ M', (rtk (n + 1)).call n__law_dice [.p (scrD ns), .p (.int sp)] M = .ok (.loc M.nx) M' ∧ ∃ c, M'.at_ M.nx = some c ∧ DcOk 0 c := by
  rw [rt_call (N := 5) (m := m__law_dice) rfl]
  unfold runS m__law_dice
  obtain ⟨A, hA⟩ : ∃ A : Int, A = 10 ^ 53 := ⟨_, rfl⟩
  obtain ⟨B, hB⟩ : ∃ B : Int, B = A ^ 6 := ⟨_, rfl⟩
  obtain ⟨C, hC⟩ : ∃ C : Int, C = 10 ^ 16 := ⟨_, rfl⟩
  have p1 : ∀ M, powD (.p (.int 10)) (.p (.int 53)) M = .ok (.p (.int A)) M := fun M => by rw [hA]; rfl
  have p2 : ∀ M, powD (.p (.int A)) (.p (.int 6)) M = .ok (.p (.int B)) M := fun M => by rw [hB, hA]; rfl
  have p3 : ∀ M, powD (.p (.int 10)) (.p (.int 16)) M = .ok (.p (.int C)) M := fun M => by rw [hC]; rfl
  have hB0 : 0 < B := by rw [hB, hA]; decide
  obtain ⟨cell, hcell⟩ : ∃ cell : Int, ∀ M, ifE (truE (binE (cmpD .Lt) (var 1) (callB lenD (consA (var 0) nilA)))) (callB int1D (consA (binE idxD (var 0) (var 1)) nilA)) (binE (addD false) (binE (mulD false) (cst (.int 131)) (var 1)) (cst (.int 37))) (rtk n) [some (.p (scrD ns)), some (.p (.int sp)), none, none, none] M = .ok (.p (.int cell)) M := by
    unfold scrD
    by_cases h : sp < ns.length
    · refine ⟨ns[sp], fun M => ?_⟩
      have e : atL (ns.map P.int) (sp : Int) = some (.int ns[sp]) := by
        show (ns.map P.int)[sp]? = _
        simp [h]
      have ix := fun M => idx_lst (M := M) e
      simp [h, ix]
    · refine ⟨131 * sp + 37, fun M => ?_⟩
      have m1 : mulD false (.p (.int 131)) (.p (.int sp)) M = .ok (.p (.int (131 * sp))) M := mul_ok (a := 10) (b := 10) (by decide) (by omega) (by decide)
      simp [h, m1]
  obtain ⟨c, hc⟩ : ∃ c : P, c = scrD ns := ⟨_, rfl⟩
  rw [← hc] at hcell ⊢
  obtain ⟨g, hg⟩ : ∃ g : Int, g = (if cell < 0 then -cell else cell) % B := ⟨_, rfl⟩
  have md1 : ∀ M, modD (.p (.int (if cell < 0 then -cell else cell))) (.p (.int B)) M = .ok (.p (.int g)) M := fun M => by
    rw [hg]
    exact modD_int hB0
  obtain ⟨u, hu⟩ : ∃ u, u = g % 2305843009213693907 := ⟨_, rfl⟩
  have md2 : ∀ M, modD (.p (.int g)) (.p (.int 2305843009213693907)) M = .ok (.p (.int u)) M := fun M => by
    rw [hu]
    exact modD_int (by decide)
  have u0 := Int.emod_nonneg g (show (2305843009213693907 : Int) ≠ 0 by decide)
  have u1 := Int.emod_lt_of_pos g (show (0 : Int) < 2305843009213693907 by decide)
  rw [← hu] at u0 u1
  have m1 : ∀ M, mulD false (.p (.int u)) (.p (.int 73)) M = .ok (.p (.int (u * 73))) M := fun M => mul_ok (a := 100) (b := 10) (by omega) (by decide) (by decide)
  have m2 : ∀ M, mulD false (.p (.int 619)) (.p (.int sp)) M = .ok (.p (.int (619 * sp))) M := fun M => mul_ok (a := 10) (b := 10) (by decide) (by omega) (by decide)
  have m3 : ∀ M, mulD false (.p (.int 41)) (.p (.int 1)) M = .ok (.p (.int 41)) M := fun M => rfl
  have m4 : ∀ M, mulD false (.p (.int 41)) (.p (.int 0)) M = .ok (.p (.int 0)) M := fun M => rfl
  have s1 : (setS 2 (ifE (truE (binE (cmpD .Lt) (var 1) (callB lenD (consA (var 0) nilA)))) (callB int1D (consA (binE idxD (var 0) (var 1)) nilA)) (binE (addD false) (binE (mulD false) (cst (.int 131)) (var 1)) (cst (.int 37))))) (rtk n) [some (.p c), some (.p (.int sp)), none, none, none] M = .nx [some (.p c), some (.p (.int sp)), some (.p (.int cell)), none, none] M := by
    show ((ifE _ _ _ (rtk n) [some (.p c), some (.p (.int sp)), none, none, none] M).bindS _ _) = _
    rw [hcell M]
    rfl
  show ∃ M', RS.out (seqS _ _ (rtk n) [some (.p c), some (.p (.int sp)), none, none, none] M) = _ ∧ _
  rw [seq_nx s1]
  have s2 : (setS 3 (binE modD (callB int1D (consA (callB absD (consA (var 2) nilA)) nilA)) (binE powD (binE powD (cst (.int 10)) (cst (.int 53))) (cst (.int 6))))) (rtk n) [some (.p c), some (.p (.int sp)), some (.p (.int cell)), none, none] M = .nx [some (.p c), some (.p (.int sp)), some (.p (.int cell)), some (.p (.int g)), none] M := by
    have e := md1 M
    simp [p1, p2, e]
  rw [seq_nx s2]
  have hx : ∀ x : Int, (0 : Int) ≤ if x > 0 then x else 0 := fun x => by split <;> omega
  by_cases hn : cell < 0
  · refine ⟨M.new [.int (if g - C > 0 then g - C else 0), .int (u * 73 + 619 * sp + 41 + 17), .int 0], ?_, _, new_at, _, _, _, rfl, hx _, ?_, by decide⟩
    · simp [md2, m1, m2, m3, hn, p3]
    · omega
  · refine ⟨M.new [.int (if g - C > 0 then g - C else 0), .int (u * 73 + 619 * sp + 0 + 17), .int 0], ?_, _, new_at, _, _, _, rfl, hx _, ?_, by decide⟩
    · simp [md2, m1, m2, m4, hn, p3]
    · omega
/-- how many spots -/
theorem spots {e : SI} {k : Nat} {K : Int} {ns : List Int} (hK : (k : Int) = K) (he : e = rngI1 (consA (callB max2D (consA (cst (.int 1)) (consA (callB min2D (consA (cst (.int K)) (consA (callB lenD (consA (var 0) nilA)) nilA))) nilA))) nilA)) (hk : 1 ≤ k) (hk2 : k ≤ 10) (rt : Rt) (δ : Slots) (hd : δ[0]? = some (some (.p (scrD ns)))) :
    ∃ x : Nat, x ≤ k ∧ ∀ M, e rt δ M = .ok (.seq (intRow 0 x)) M := by
  subst hK
  have key : ∃ x : Nat, x ≤ k ∧ (if (if (ns.length : Int) < k then (ns.length : Int) else k) > 1 then (if (ns.length : Int) < k then (ns.length : Int) else k) else 1) = (x : Int) := by
    by_cases h1 : (ns.length : Int) < k
    · rw [if_pos h1]
      by_cases h2 : (ns.length : Int) > 1
      · rw [if_pos h2]; exact ⟨ns.length, by omega, rfl⟩
      · rw [if_neg h2]; exact ⟨1, by omega, rfl⟩
    · rw [if_neg h1]
      by_cases h2 : (k : Int) > 1
      · rw [if_pos h2]; exact ⟨k, by omega, rfl⟩
      · rw [if_neg h2]; exact ⟨1, by omega, rfl⟩
  obtain ⟨x, h0, h1⟩ := key
  refine ⟨x, h0, fun M => ?_⟩
  have e1 : (callB max2D (consA (cst (.int 1)) (consA (callB min2D (consA (cst (.int k)) (consA (callB lenD (consA (var 0) nilA)) nilA))) nilA))) rt δ M = .ok (.p (.int x)) M := by
    rw [← h1]
    unfold scrD at hd
    simp [hd]
  have e2 : small x = true := Nat.ble_eq_true_of_le (by omega)
  subst he
  show (((callB max2D _ rt δ M).bindA _).bindI _ : RI) = _
  rw [e1]
  show (if small x then _ else _) = _
  rw [e2]
  rfl
theorem intRow_mem {lo : Int} {n : Nat} {d : P} (h : d ∈ intRow lo n) : ∃ i : Nat, i < n ∧ d = .int (lo + i) := by
  unfold intRow at h
  rw [List.mem_map] at h
  obtain ⟨i, h1, h2⟩ := h
  exact ⟨i, List.mem_range.mp h1, h2.symm⟩
theorem intRow_len {lo : Int} {n : Nat} : (intRow lo n).length = n := by unfold intRow; simp
end
end Lw
namespace Lw
open PySem PySem.Spec PyProof.Rows L2 FW LamX
/-- the values that are drawn -/
def menu : List P := [.non,
  .bl true,
  .bl false,
  .int 0,
  .int 1,
  .int (-3),
  .int 1000000000000000000000000000000000000000,
  .str [97],
  .str [],
  .str [117, 112, 46, 50],
  .str [50, 117, 112],
  .str [85, 112],
  .str [97, 32, 98],
  .str [97, 98, 99, 100, 101, 102, 103, 104, 105, 106, 107, 108],
  .str [97, 98, 99, 100, 101, 102, 103, 104, 105, 106, 107, 108, 109],
  .tup [],
  .tup [.int 0, .int 1],
  .tup [.int 1, .int 1],
  .tup [.int 2, .int 4],
  .tup [.int 0, .int 2],
  .tup [.int 1, .int 0],
  .tup [.int 1, .int (-2)],
  .tup [.int (-1), .int 2],
  .tup [.bl true, .int 1],
  .tup [.int 1, .bl true],
  .lst [.int 1, .int 2],
  .tup [.int 1],
  .tup [.int 1, .int 2, .int 3],
  .tup [.int 1000000000000000000000000000000000000001, .int 1000000000000000000000000000000000000000],
  .tup [.tup [.int 1, .int 1], .int 1],
  .tup [.str [49], .int 1],
  .tup [.non, .int 1],
  .str [49, 47, 50],
  .dic [] [],
  .dic [.int 1] [.int 2],
  .str [46, 97],
  .str [97, 46]]
def restS : SS := seqS m__law_right_1 (seqS m__law_right_2 (seqS m__law_right_3 (seqS m__law_right_4 (seqS m__law_right_5 (seqS m__law_right_6 (seqS m__law_right_7 (seqS m__law_right_8 (seqS m__law_right_9 (seqS m__law_right_10 (seqS m__law_right_11 (seqS m__law_right_12 (seqS m__law_right_13 (seqS m__law_right_14 (seqS m__law_right_15 (seqS m__law_right_16 (seqS m__law_right_17 (seqS m__law_right_18 (seqS m__law_right_19 m__law_right_20))))))))))))))))))
theorem rest_eq : m__law_right = seqS m__law_right_0 restS := rfl
def dl (v w : P) : Slots := [some (.loc 0), none, none, none, none, none, none, none, none, some (.p v), some (.p w)]
/-- what stands in the dice behind a turn that went well -/
def fin (r : RS) : Option (List P) := match r with
  | .rt (.p (.bl true)) M2 => M2.at_ 0
  | _ => none
theorem row_0 (f : Nat → Option (List P)) : (menu.map fun w => fin (restS (rtk 28) (dl (menu.getD 0 .non) w) ⟨1, f⟩)) = menu.map fun _ => f 0 := by kernel_rfl
theorem row_1 (f : Nat → Option (List P)) : (menu.map fun w => fin (restS (rtk 28) (dl (menu.getD 1 .non) w) ⟨1, f⟩)) = menu.map fun _ => f 0 := by kernel_rfl
theorem row_2 (f : Nat → Option (List P)) : (menu.map fun w => fin (restS (rtk 28) (dl (menu.getD 2 .non) w) ⟨1, f⟩)) = menu.map fun _ => f 0 := by kernel_rfl
theorem row_3 (f : Nat → Option (List P)) : (menu.map fun w => fin (restS (rtk 28) (dl (menu.getD 3 .non) w) ⟨1, f⟩)) = menu.map fun _ => f 0 := by kernel_rfl
theorem row_4 (f : Nat → Option (List P)) : (menu.map fun w => fin (restS (rtk 28) (dl (menu.getD 4 .non) w) ⟨1, f⟩)) = menu.map fun _ => f 0 := by kernel_rfl
theorem row_5 (f : Nat → Option (List P)) : (menu.map fun w => fin (restS (rtk 28) (dl (menu.getD 5 .non) w) ⟨1, f⟩)) = menu.map fun _ => f 0 := by kernel_rfl
theorem row_6 (f : Nat → Option (List P)) : (menu.map fun w => fin (restS (rtk 28) (dl (menu.getD 6 .non) w) ⟨1, f⟩)) = menu.map fun _ => f 0 := by kernel_rfl
theorem row_7 (f : Nat → Option (List P)) : (menu.map fun w => fin (restS (rtk 28) (dl (menu.getD 7 .non) w) ⟨1, f⟩)) = menu.map fun _ => f 0 := by kernel_rfl
theorem row_8 (f : Nat → Option (List P)) : (menu.map fun w => fin (restS (rtk 28) (dl (menu.getD 8 .non) w) ⟨1, f⟩)) = menu.map fun _ => f 0 := by kernel_rfl
theorem row_9 (f : Nat → Option (List P)) : (menu.map fun w => fin (restS (rtk 28) (dl (menu.getD 9 .non) w) ⟨1, f⟩)) = menu.map fun _ => f 0 := by kernel_rfl
theorem row_10 (f : Nat → Option (List P)) : (menu.map fun w => fin (restS (rtk 28) (dl (menu.getD 10 .non) w) ⟨1, f⟩)) = menu.map fun _ => f 0 := by kernel_rfl
theorem row_11 (f : Nat → Option (List P)) : (menu.map fun w => fin (restS (rtk 28) (dl (menu.getD 11 .non) w) ⟨1, f⟩)) = menu.map fun _ => f 0 := by kernel_rfl
theorem row_12 (f : Nat → Option (List P)) : (menu.map fun w => fin (restS (rtk 28) (dl (menu.getD 12 .non) w) ⟨1, f⟩)) = menu.map fun _ => f 0 := by kernel_rfl
theorem row_13 (f : Nat → Option (List P)) : (menu.map fun w => fin (restS (rtk 28) (dl (menu.getD 13 .non) w) ⟨1, f⟩)) = menu.map fun _ => f 0 := by kernel_rfl
theorem row_14 (f : Nat → Option (List P)) : (menu.map fun w => fin (restS (rtk 28) (dl (menu.getD 14 .non) w) ⟨1, f⟩)) = menu.map fun _ => f 0 := by kernel_rfl
theorem row_15 (f : Nat → Option (List P)) : (menu.map fun w => fin (restS (rtk 28) (dl (menu.getD 15 .non) w) ⟨1, f⟩)) = menu.map fun _ => f 0 := by kernel_rfl
theorem row_16 (f : Nat → Option (List P)) : (menu.map fun w => fin (restS (rtk 28) (dl (menu.getD 16 .non) w) ⟨1, f⟩)) = menu.map fun _ => f 0 := by kernel_rfl
theorem row_17 (f : Nat → Option (List P)) : (menu.map fun w => fin (restS (rtk 28) (dl (menu.getD 17 .non) w) ⟨1, f⟩)) = menu.map fun _ => f 0 := by kernel_rfl
theorem row_18 (f : Nat → Option (List P)) : (menu.map fun w => fin (restS (rtk 28) (dl (menu.getD 18 .non) w) ⟨1, f⟩)) = menu.map fun _ => f 0 := by kernel_rfl
theorem row_19 (f : Nat → Option (List P)) : (menu.map fun w => fin (restS (rtk 28) (dl (menu.getD 19 .non) w) ⟨1, f⟩)) = menu.map fun _ => f 0 := by kernel_rfl
theorem row_20 (f : Nat → Option (List P)) : (menu.map fun w => fin (restS (rtk 28) (dl (menu.getD 20 .non) w) ⟨1, f⟩)) = menu.map fun _ => f 0 := by kernel_rfl
theorem row_21 (f : Nat → Option (List P)) : (menu.map fun w => fin (restS (rtk 28) (dl (menu.getD 21 .non) w) ⟨1, f⟩)) = menu.map fun _ => f 0 := by kernel_rfl
theorem row_22 (f : Nat → Option (List P)) : (menu.map fun w => fin (restS (rtk 28) (dl (menu.getD 22 .non) w) ⟨1, f⟩)) = menu.map fun _ => f 0 := by kernel_rfl
theorem row_23 (f : Nat → Option (List P)) : (menu.map fun w => fin (restS (rtk 28) (dl (menu.getD 23 .non) w) ⟨1, f⟩)) = menu.map fun _ => f 0 := by kernel_rfl
theorem row_24 (f : Nat → Option (List P)) : (menu.map fun w => fin (restS (rtk 28) (dl (menu.getD 24 .non) w) ⟨1, f⟩)) = menu.map fun _ => f 0 := by kernel_rfl
theorem row_25 (f : Nat → Option (List P)) : (menu.map fun w => fin (restS (rtk 28) (dl (menu.getD 25 .non) w) ⟨1, f⟩)) = menu.map fun _ => f 0 := by kernel_rfl
theorem row_26 (f : Nat → Option (List P)) : (menu.map fun w => fin (restS (rtk 28) (dl (menu.getD 26 .non) w) ⟨1, f⟩)) = menu.map fun _ => f 0 := by kernel_rfl
theorem row_27 (f : Nat → Option (List P)) : (menu.map fun w => fin (restS (rtk 28) (dl (menu.getD 27 .non) w) ⟨1, f⟩)) = menu.map fun _ => f 0 := by kernel_rfl
theorem row_28 (f : Nat → Option (List P)) : (menu.map fun w => fin (restS (rtk 28) (dl (menu.getD 28 .non) w) ⟨1, f⟩)) = menu.map fun _ => f 0 := by kernel_rfl
theorem row_29 (f : Nat → Option (List P)) : (menu.map fun w => fin (restS (rtk 28) (dl (menu.getD 29 .non) w) ⟨1, f⟩)) = menu.map fun _ => f 0 := by kernel_rfl
theorem row_30 (f : Nat → Option (List P)) : (menu.map fun w => fin (restS (rtk 28) (dl (menu.getD 30 .non) w) ⟨1, f⟩)) = menu.map fun _ => f 0 := by kernel_rfl
theorem row_31 (f : Nat → Option (List P)) : (menu.map fun w => fin (restS (rtk 28) (dl (menu.getD 31 .non) w) ⟨1, f⟩)) = menu.map fun _ => f 0 := by kernel_rfl
theorem row_32 (f : Nat → Option (List P)) : (menu.map fun w => fin (restS (rtk 28) (dl (menu.getD 32 .non) w) ⟨1, f⟩)) = menu.map fun _ => f 0 := by kernel_rfl
theorem row_33 (f : Nat → Option (List P)) : (menu.map fun w => fin (restS (rtk 28) (dl (menu.getD 33 .non) w) ⟨1, f⟩)) = menu.map fun _ => f 0 := by kernel_rfl
theorem row_34 (f : Nat → Option (List P)) : (menu.map fun w => fin (restS (rtk 28) (dl (menu.getD 34 .non) w) ⟨1, f⟩)) = menu.map fun _ => f 0 := by kernel_rfl
theorem row_35 (f : Nat → Option (List P)) : (menu.map fun w => fin (restS (rtk 28) (dl (menu.getD 35 .non) w) ⟨1, f⟩)) = menu.map fun _ => f 0 := by kernel_rfl
theorem row_36 (f : Nat → Option (List P)) : (menu.map fun w => fin (restS (rtk 28) (dl (menu.getD 36 .non) w) ⟨1, f⟩)) = menu.map fun _ => f 0 := by kernel_rfl
theorem rows (f : Nat → Option (List P)) : ∀ i, i < 37 → (menu.map fun w => fin (restS (rtk 28) (dl (menu.getD i .non) w) ⟨1, f⟩)) = menu.map fun _ => f 0 := fun i hi => match i, hi with
  | 0, _ => row_0 f
  | 1, _ => row_1 f
  | 2, _ => row_2 f
  | 3, _ => row_3 f
  | 4, _ => row_4 f
  | 5, _ => row_5 f
  | 6, _ => row_6 f
  | 7, _ => row_7 f
  | 8, _ => row_8 f
  | 9, _ => row_9 f
  | 10, _ => row_10 f
  | 11, _ => row_11 f
  | 12, _ => row_12 f
  | 13, _ => row_13 f
  | 14, _ => row_14 f
  | 15, _ => row_15 f
  | 16, _ => row_16 f
  | 17, _ => row_17 f
  | 18, _ => row_18 f
  | 19, _ => row_19 f
  | 20, _ => row_20 f
  | 21, _ => row_21 f
  | 22, _ => row_22 f
  | 23, _ => row_23 f
  | 24, _ => row_24 f
  | 25, _ => row_25 f
  | 26, _ => row_26 f
  | 27, _ => row_27 f
  | 28, _ => row_28 f
  | 29, _ => row_29 f
  | 30, _ => row_30 f
  | 31, _ => row_31 f
  | 32, _ => row_32 f
  | 33, _ => row_33 f
  | 34, _ => row_34 f
  | 35, _ => row_35 f
  | 36, _ => row_36 f
  | k + 37, h => absurd h (by omega)
theorem menu_len : menu.length = 37 := rfl
theorem all_ok (f : Nat → Option (List P)) {i j : Nat} (hi : i < menu.length) (hj : j < menu.length) : fin (restS (rtk 28) (dl (menu.getD i .non) (menu.getD j .non)) ⟨1, f⟩) = f 0 := by
  have h := congrArg (fun l : List (Option (List P)) => l[j]?) (rows f i hi)
  simp only [List.getElem?_map] at h
  rw [List.getElem?_eq_getElem hj] at h
  have e : menu.getD j .non = menu[j] := by simp [List.getD, List.getElem?_eq_getElem hj]
  rw [e]
  exact Option.some.inj h
section
variable {n : Nat}
theorem c_some {B : Nat} {c : List P} (h : DcOk B c) (hB : B < 2 ^ 100) :
    ∃ i M' c', (rtk (n + 3)).call n__law_some [.loc 0] (arena1 c) = .ok (.p (menu.getD i .non)) M' ∧ i < menu.length ∧ M'.at_ 0 = some c' ∧ DcOk (B + 1) c' := by
  rw [rt_call (N := 2) (m := m__law_some) rfl]
  obtain ⟨i, M', c', h1, h2, h3, h4⟩ := c_pick (n := n) (ds := menu) h (by decide) (by decide) hB
  have e : runS 2 m__law_some (rtk (n + 2)) [.loc 0] (arena1 c) = runS 2 (retS (callF false n__law_pick [] (consA (var 0) (consA (var 1) nilA)))) (rtk (n + 2)) [.loc 0, .p (.lst menu)] (arena1 c) := by kernel_rfl
  refine ⟨i, (arena1 c).put 0 c', c', ?_, h2, put_at, h4⟩
  rw [e]
  unfold runS
  simp [h1, h3]
theorem c_right {B : Nat} {c : List P} (h : DcOk B c) (hB : B + 1 < 2 ^ 100) : ∃ M' c', (rtk 29).call n__law_right [.loc 0] (arena1 c) = .ok (.p (.bl true)) M' ∧ M'.at_ 0 = some c' ∧ DcOk (B + 2) c' := by
  rw [rt_call (N := 11) (m := m__law_right) rfl]
  obtain ⟨i, M1, c1, h1, h2, h3, h4⟩ := c_some (n := 25) h (by omega)
  obtain ⟨j, M2, c2, k1, k2, k3, k4⟩ := c_some (n := 25) h4 hB
  have s0 : m__law_right_0 (rtk 28) [some (.loc 0), none, none, none, none, none, none, none, none, none, none] (arena1 c) = .nx (dl (menu.getD i .non) (menu.getD j .non)) (((arena1 c).put 0 c1).put 0 c2) := by
    unfold m__law_right_0 dl
    simp [h1, h3, put_at, k1, k3]
  have ok := all_ok (((arena1 c).put 0 c1).put 0 c2).at_ h2 k2
  rw [show (((arena1 c).put 0 c1).put 0 c2).at_ 0 = some c2 from put_at] at ok
  have e : (⟨1, (((arena1 c).put 0 c1).put 0 c2).at_⟩ : Mem) = ((arena1 c).put 0 c1).put 0 c2 := rfl
  rw [e] at ok
  show ∃ M' c', RS.out (m__law_right (rtk 28) [some (.loc 0), none, none, none, none, none, none, none, none, none, none] (arena1 c)) = _ ∧ _
  rw [rest_eq, seq_nx s0]
  revert ok
  cases restS (rtk 28) (dl (menu.getD i .non) (menu.getD j .non)) (((arena1 c).put 0 c1).put 0 c2) with
  | rt d M3 =>
    cases d with
    | p y =>
      cases y with
      | bl b =>
        cases b with
        | true => exact fun ok => ⟨M3, c2, rfl, ok, k4⟩
        | false => exact fun ok => by cases ok
      | _ => exact fun ok => by cases ok
    | _ => exact fun ok => by cases ok
  | _ => exact fun ok => by cases ok
end
theorem law_end (s u1 u2 u3 : Option D) (M : Mem) : (seqS m_law_1 (seqS m_law_2 m_law_3)) (rtk 29) [s, u1, u2, u3, none] M = .rt (.p (.bl true)) M := by
  kernel_rfl
theorem law_turn (s u1 u3 : Option D) (k : Nat) (M : Mem) (c : List P) (hc : M.at_ k = some c) (h : DcOk 0 c) : ∃ u3' M', m_law_0b1 (rtk 29) [s, u1, some (.loc k), u3, none] M = .nx [s, u1, some (.loc k), u3', none] M' := by
  obtain ⟨δ', M', h1, u, j, c', h2, _⟩ := for_inv (g := nameG 3) (b := m_law_0b1b) (rt := rtk 29) (fun ds δ M => ∃ u j c, δ = [s, u1, some (.loc k), u, none] ∧ M.at_ k = some c ∧ DcOk (2 * j) c ∧ j + ds.length ≤ 8) (fun d ds δ M => by
    rintro ⟨u, j, c, rfl, hc, h2, h3⟩
    rw [List.length_cons] at h3
    refine ⟨_, rfl, ?_⟩
    obtain ⟨M', c', c1, c2, c3⟩ := c_right h2 (by omega)
    refine ⟨[s, u1, some (.loc k), some (.p d), none], M.put k c', ?_, _, j + 1, c', rfl, put_at, by rw [Nat.mul_succ]; exact c3, by omega⟩
    unfold m_law_0b1b m_law_0b1b0
    simp [c1, c2, hc]) (intRow 0 8) [s, u1, some (.loc k), u3, none] M ⟨u3, 0, c, rfl, hc, h, by rw [intRow_len]; omega⟩
  subst h2
  refine ⟨u, M', ?_⟩
  unfold m_law_0b1
  simp [rngI1, rngD1, h1]
theorem law_true (ns : List Int) (hl : ns.length ≤ 63) : ∃ M, (rtk 30).call 43 [.p (scrD ns)] Mem.empty = .ok (.p (.bl true)) M := by
  rw [rt_call (N := 5) (m := m_law) rfl]
  unfold runS m_law
  obtain ⟨x, hx0, hx⟩ := spots (k := 6) (K := 6) (ns := ns) rfl rfl (by decide) (by decide) (rtk 29) [some (.p (scrD ns)), none, none, none, none] rfl
  show ∃ M, RS.out (seqS _ _ (rtk 29) [some (.p (scrD ns)), none, none, none, none] _) = _
  obtain ⟨δ', M', h1, _, u1, u2, u3, h2⟩ := for_inv (g := nameG 1) (b := m_law_0b) (rt := rtk 29) (fun ds δ M => (∀ d ∈ ds, ∃ sp : Nat, sp < 6 ∧ d = .int sp) ∧ ∃ u1 u2 u3, δ = [some (.p (scrD ns)), u1, u2, u3, none]) (fun d ds δ M => by
    rintro ⟨h0, u1, u2, u3, rfl⟩
    obtain ⟨sp, h1, rfl⟩ := h0 d List.mem_cons_self
    refine ⟨_, rfl, ?_⟩
    obtain ⟨M1, c1, c, c2, c3⟩ := c_dice (n := 28) (M := Mem.empty) (ns := ns) (sp := sp) (by omega)
    obtain ⟨u3', M2, c4⟩ := law_turn (some (.p (scrD ns))) (some (.p (.int sp))) u3 M.nx (M.new c) c new_at c3
    refine ⟨[some (.p (scrD ns)), some (.p (.int sp)), some (.loc M.nx), u3', none], M2, ?_, fun d hd => h0 d (List.mem_cons_of_mem _ hd), _, _, _, rfl⟩
    unfold m_law_0b
    have s0 : m_law_0b0 (rtk 29) [some (.p (scrD ns)), some (.p (.int sp)), u2, u3, none] M = .nx [some (.p (scrD ns)), some (.p (.int sp)), some (.loc M.nx), u3, none] (M.new c) := by
      unfold m_law_0b0
      simp [c1, c2]
    show seqS _ _ (rtk 29) [some (.p (scrD ns)), some (.p (.int sp)), u2, u3, none] M = _
    rw [seq_nx s0]
    exact c4) (intRow 0 x) [some (.p (scrD ns)), none, none, none, none] Mem.empty ⟨fun d hd => by
      obtain ⟨i, hi, e⟩ := intRow_mem hd
      exact ⟨i, by omega, by rw [e]; simp⟩, none, none, none, rfl⟩
  subst h2
  have s0 : m_law_0 (rtk 29) [some (.p (scrD ns)), none, none, none, none] Mem.empty = .nx [some (.p (scrD ns)), u1, u2, u3, none] M' := by
    unfold m_law_0
    simp only [z_forS, hx Mem.empty, z_RI_bindS, h1]
  rw [seq_nx s0, law_end]
  exact ⟨M', rfl⟩
end Lw
namespace Lw
open PySem PySem.Spec PyProof.Rows L2 FW LamX
abbrev PG : Program := PySem.W.OpenLaw.prog PySem.Challenge.rw_nextties_k22_errors_and_judges_of_number
def tf : List He.Defn := [("_law_right", none), ("law", none)]
structure Gd (w : World) (mg : Str → Option Value) (Z : Am) : Prop where
  no : ∀ u ρ H, ¬ Z.lam 1000 u ρ H
  b_isinstance : mg "isinstance" = none
  b_int : mg "int" = none
  b_bool : mg "bool" = none
  b_str : mg "str" = none
  b_len : mg "len" = none
  b_all : mg "all" = none
  b_abs : mg "abs" = none
  b_tuple : mg "tuple" = none
  b_range : mg "range" = none
  b_max : mg "max" = none
  b_repr : mg "repr" = none
  b_min : mg "min" = none
  g_MAX_LETTERS : GlV mg Z "MAX_LETTERS" (.int 12)
  g_LETTERS : GlV mg Z "LETTERS" (.str [97, 98, 99, 100, 101, 102, 103, 104, 105, 106, 107, 108, 109, 110, 111, 112, 113, 114, 115, 116, 117, 118, 119, 120, 121, 122])
  g_SIGNS : GlV mg Z "SIGNS" (.str [97, 98, 99, 100, 101, 102, 103, 104, 105, 106, 107, 108, 109, 110, 111, 112, 113, 114, 115, 116, 117, 118, 119, 120, 121, 122, 48, 49, 50, 51, 52, 53, 54, 55, 56, 57, 46])
  g_MOST_PASSED : GlV mg Z "MOST_PASSED" (.int 10000000000000000000000000000000000000000)
  g_NOUGHT : GlV mg Z "NOUGHT" (.tup [.int 0, .int 1])
  g_ONE : GlV mg Z "ONE" (.tup [.int 1, .int 1])
  r_InvalidFraction : RaM PG Z.K mg Z "InvalidFraction" 2
  v_InvalidCount : RaV PG w Z.K mg Z "InvalidCount" 3 true
  v_Refused : RaV PG w Z.K mg Z "Refused" 4 false
  h_Refused : HdF mg Z.toBm "Refused" fm_Refused
  h_InvalidCount : HdF mg Z.toBm "InvalidCount" fm_InvalidCount
  h_InvalidFraction : HdF mg Z.toBm "InvalidFraction" fm_InvalidFraction
  x_Refused : XfF Z.toBm fm_Refused "reason"
  x_InvalidCount : XfF Z.toBm fm_InvalidCount "given"
  t_42 : ((He.cT Z.K ("_law_right", none)).2, lamQ ("_law_right", none)) ∈ Z.T ∧ ∀ p ∈ Z.T, p.1 = (He.cT Z.K ("_law_right", none)).2 → p.2 = lamQ ("_law_right", none)
  t_43 : ((He.cT Z.K ("law", none)).2, lamQ ("law", none)) ∈ Z.T ∧ ∀ p ∈ Z.T, p.1 = (He.cT Z.K ("law", none)).2 → p.2 = lamQ ("law", none)
  d_13 : ∃ fd, FunD Z.K "is_integer" "is_integer" (defArgs s_13) (defBody s_13) (defScope s_13) [] [] (He.ga Z.K "is_integer") fd
  a_13 : mg "is_integer" = some (.ref (He.ga Z.K "is_integer"))
  d_14 : ∃ fd, FunD Z.K "is_name" "is_name" (defArgs s_14) (defBody s_14) (defScope s_14) [] [] (He.ga Z.K "is_name") fd
  a_14 : mg "is_name" = some (.ref (He.ga Z.K "is_name"))
  d_15 : ∃ fd, FunD Z.K "common_divisor" "common_divisor" (defArgs s_15) (defBody s_15) (defScope s_15) [] [] (He.ga Z.K "common_divisor") fd
  a_15 : mg "common_divisor" = some (.ref (He.ga Z.K "common_divisor"))
  d_16 : ∃ fd, FunD Z.K "is_number" "is_number" (defArgs s_16) (defBody s_16) (defScope s_16) [] [] (He.ga Z.K "is_number") fd
  a_16 : mg "is_number" = some (.ref (He.ga Z.K "is_number"))
  d_17 : ∃ fd, FunD Z.K "reduced" "reduced" (defArgs s_17) (defBody s_17) (defScope s_17) [] [] (He.ga Z.K "reduced") fd
  a_17 : mg "reduced" = some (.ref (He.ga Z.K "reduced"))
  d_18 : ∃ fd, FunD Z.K "number" "number" (defArgs s_18) (defBody s_18) (defScope s_18) [.int 1] [] (He.ga Z.K "number") fd
  a_18 : mg "number" = some (.ref (He.ga Z.K "number"))
  d_19 : ∃ fd, FunD Z.K "require_number" "require_number" (defArgs s_19) (defBody s_19) (defScope s_19) [] [] (He.ga Z.K "require_number") fd
  a_19 : mg "require_number" = some (.ref (He.ga Z.K "require_number"))
  d_20 : ∃ fd, FunD Z.K "require_count" "require_count" (defArgs s_20) (defBody s_20) (defScope s_20) [.int 0, .int 60] [] (He.ga Z.K "require_count") fd
  a_20 : mg "require_count" = some (.ref (He.ga Z.K "require_count"))
  d_21 : ∃ fd, FunD Z.K "added" "added" (defArgs s_21) (defBody s_21) (defScope s_21) [] [] (He.ga Z.K "added") fd
  a_21 : mg "added" = some (.ref (He.ga Z.K "added"))
  d_22 : ∃ fd, FunD Z.K "multiplied" "multiplied" (defArgs s_22) (defBody s_22) (defScope s_22) [] [] (He.ga Z.K "multiplied") fd
  a_22 : mg "multiplied" = some (.ref (He.ga Z.K "multiplied"))
  d_23 : ∃ fd, FunD Z.K "opposite" "opposite" (defArgs s_23) (defBody s_23) (defScope s_23) [] [] (He.ga Z.K "opposite") fd
  a_23 : mg "opposite" = some (.ref (He.ga Z.K "opposite"))
  d_24 : ∃ fd, FunD Z.K "divided" "divided" (defArgs s_24) (defBody s_24) (defScope s_24) [] [] (He.ga Z.K "divided") fd
  a_24 : mg "divided" = some (.ref (He.ga Z.K "divided"))
  d_25 : ∃ fd, FunD Z.K "sum_of" "sum_of" (defArgs s_25) (defBody s_25) (defScope s_25) [] [] (He.ga Z.K "sum_of") fd
  a_25 : mg "sum_of" = some (.ref (He.ga Z.K "sum_of"))
  d_26 : ∃ fd, FunD Z.K "plus" "plus" (defArgs s_26) (defBody s_26) (defScope s_26) [] [] (He.ga Z.K "plus") fd
  a_26 : mg "plus" = some (.ref (He.ga Z.K "plus"))
  d_27 : ∃ fd, FunD Z.K "minus" "minus" (defArgs s_27) (defBody s_27) (defScope s_27) [] [] (He.ga Z.K "minus") fd
  a_27 : mg "minus" = some (.ref (He.ga Z.K "minus"))
  d_28 : ∃ fd, FunD Z.K "times" "times" (defArgs s_28) (defBody s_28) (defScope s_28) [] [] (He.ga Z.K "times") fd
  a_28 : mg "times" = some (.ref (He.ga Z.K "times"))
  d_29 : ∃ fd, FunD Z.K "over" "over" (defArgs s_29) (defBody s_29) (defScope s_29) [] [] (He.ga Z.K "over") fd
  a_29 : mg "over" = some (.ref (He.ga Z.K "over"))
  d_30 : ∃ fd, FunD Z.K "compared" "compared" (defArgs s_30) (defBody s_30) (defScope s_30) [] [] (He.ga Z.K "compared") fd
  a_30 : mg "compared" = some (.ref (He.ga Z.K "compared"))
  d_31 : ∃ fd, FunD Z.K "total" "total" (defArgs s_31) (defBody s_31) (defScope s_31) [] [] (He.ga Z.K "total") fd
  a_31 : mg "total" = some (.ref (He.ga Z.K "total"))
  d_32 : ∃ fd, FunD Z.K "power" "power" (defArgs s_32) (defBody s_32) (defScope s_32) [] [] (He.ga Z.K "power") fd
  a_32 : mg "power" = some (.ref (He.ga Z.K "power"))
  d_34 : ∃ fd, FunD Z.K "_law_dice" "_law_dice" (defArgs s_34) (defBody s_34) (defScope s_34) [] [] (He.ga Z.K "_law_dice") fd
  a_34 : mg "_law_dice" = some (.ref (He.ga Z.K "_law_dice"))
  d_35 : ∃ fd, FunD Z.K "_law_roll" "_law_roll" (defArgs s_35) (defBody s_35) (defScope s_35) [] [] (He.ga Z.K "_law_roll") fd
  a_35 : mg "_law_roll" = some (.ref (He.ga Z.K "_law_roll"))
  d_36 : ∃ fd, FunD Z.K "_law_pick" "_law_pick" (defArgs s_36) (defBody s_36) (defScope s_36) [] [] (He.ga Z.K "_law_pick") fd
  a_36 : mg "_law_pick" = some (.ref (He.ga Z.K "_law_pick"))
  d_37 : ∃ fd, FunD Z.K "_law_fr" "_law_fr" (defArgs s_37) (defBody s_37) (defScope s_37) [] [] (He.ga Z.K "_law_fr") fd
  a_37 : mg "_law_fr" = some (.ref (He.ga Z.K "_law_fr"))
  d_38 : ∃ fd, FunD Z.K "_law_is_number" "_law_is_number" (defArgs s_38) (defBody s_38) (defScope s_38) [] [] (He.ga Z.K "_law_is_number") fd
  a_38 : mg "_law_is_number" = some (.ref (He.ga Z.K "_law_is_number"))
  d_39 : ∃ fd, FunD Z.K "_law_word" "_law_word" (defArgs s_39) (defBody s_39) (defScope s_39) [] [] (He.ga Z.K "_law_word") fd
  a_39 : mg "_law_word" = some (.ref (He.ga Z.K "_law_word"))
  d_40 : ∃ fd, FunD Z.K "_law_is_name" "_law_is_name" (defArgs s_40) (defBody s_40) (defScope s_40) [] [] (He.ga Z.K "_law_is_name") fd
  a_40 : mg "_law_is_name" = some (.ref (He.ga Z.K "_law_is_name"))
  d_41 : ∃ fd, FunD Z.K "_law_some" "_law_some" (defArgs s_41) (defBody s_41) (defScope s_41) [] [] (He.ga Z.K "_law_some") fd
  a_41 : mg "_law_some" = some (.ref (He.ga Z.K "_law_some"))
  d_42 : ∃ fd, FunD Z.K "_law_right" "_law_right" (defArgs s_42) (defBody s_42) (defScope s_42) [] [] (He.ga Z.K "_law_right") fd
  a_42 : mg "_law_right" = some (.ref (He.ga Z.K "_law_right"))
  d_43 : ∃ fd, FunD Z.K "law" "law" (defArgs s_43) (defBody s_43) (defScope s_43) [] [] (He.ga Z.K "law") fd
  a_43 : mg "law" = some (.ref (He.ga Z.K "law"))
structure AllF (w : World) (mg : Str → Option Value) (base : Heap) (Z : Am) (n : Nat) : Prop where
  A_13 : ∀ fd, FunD Z.K "is_integer" "is_integer" (defArgs s_13) (defBody s_13) (defScope s_13) [] [] (He.ga Z.K "is_integer") fd → FnG PG w Z.K mg base (rm n) (He.ga Z.K "is_integer") fd ps_13 (spD Z ps_13.length ((rtk n).call 13))
  A_14 : ∀ fd, FunD Z.K "is_name" "is_name" (defArgs s_14) (defBody s_14) (defScope s_14) [] [] (He.ga Z.K "is_name") fd → FnG PG w Z.K mg base (rm n) (He.ga Z.K "is_name") fd ps_14 (spD Z ps_14.length ((rtk n).call 14))
  A_15 : ∀ fd, FunD Z.K "common_divisor" "common_divisor" (defArgs s_15) (defBody s_15) (defScope s_15) [] [] (He.ga Z.K "common_divisor") fd → FnG PG w Z.K mg base (rm n) (He.ga Z.K "common_divisor") fd ps_15 (spD Z ps_15.length ((rtk n).call 15))
  A_16 : ∀ fd, FunD Z.K "is_number" "is_number" (defArgs s_16) (defBody s_16) (defScope s_16) [] [] (He.ga Z.K "is_number") fd → FnG PG w Z.K mg base (rm n) (He.ga Z.K "is_number") fd ps_16 (spD Z ps_16.length ((rtk n).call 16))
  A_17 : ∀ fd, FunD Z.K "reduced" "reduced" (defArgs s_17) (defBody s_17) (defScope s_17) [] [] (He.ga Z.K "reduced") fd → FnG PG w Z.K mg base (rm n) (He.ga Z.K "reduced") fd ps_17 (spD Z ps_17.length ((rtk n).call 17))
  A_18 : ∀ fd, FunD Z.K "number" "number" (defArgs s_18) (defBody s_18) (defScope s_18) [.int 1] [] (He.ga Z.K "number") fd → FnG PG w Z.K mg base (rm n) (He.ga Z.K "number") fd ps_18 (spD Z ps_18.length ((rtk n).call 18))
  A_19 : ∀ fd, FunD Z.K "require_number" "require_number" (defArgs s_19) (defBody s_19) (defScope s_19) [] [] (He.ga Z.K "require_number") fd → FnG PG w Z.K mg base (rm n) (He.ga Z.K "require_number") fd ps_19 (spD Z ps_19.length ((rtk n).call 19))
  A_20 : ∀ fd, FunD Z.K "require_count" "require_count" (defArgs s_20) (defBody s_20) (defScope s_20) [.int 0, .int 60] [] (He.ga Z.K "require_count") fd → FnG PG w Z.K mg base (rm n) (He.ga Z.K "require_count") fd ps_20 (spD Z ps_20.length ((rtk n).call 20))
  A_21 : ∀ fd, FunD Z.K "added" "added" (defArgs s_21) (defBody s_21) (defScope s_21) [] [] (He.ga Z.K "added") fd → FnG PG w Z.K mg base (rm n) (He.ga Z.K "added") fd ps_21 (spD Z ps_21.length ((rtk n).call 21))
  A_22 : ∀ fd, FunD Z.K "multiplied" "multiplied" (defArgs s_22) (defBody s_22) (defScope s_22) [] [] (He.ga Z.K "multiplied") fd → FnG PG w Z.K mg base (rm n) (He.ga Z.K "multiplied") fd ps_22 (spD Z ps_22.length ((rtk n).call 22))
  A_23 : ∀ fd, FunD Z.K "opposite" "opposite" (defArgs s_23) (defBody s_23) (defScope s_23) [] [] (He.ga Z.K "opposite") fd → FnG PG w Z.K mg base (rm n) (He.ga Z.K "opposite") fd ps_23 (spD Z ps_23.length ((rtk n).call 23))
  A_24 : ∀ fd, FunD Z.K "divided" "divided" (defArgs s_24) (defBody s_24) (defScope s_24) [] [] (He.ga Z.K "divided") fd → FnG PG w Z.K mg base (rm n) (He.ga Z.K "divided") fd ps_24 (spD Z ps_24.length ((rtk n).call 24))
  A_25 : ∀ fd, FunD Z.K "sum_of" "sum_of" (defArgs s_25) (defBody s_25) (defScope s_25) [] [] (He.ga Z.K "sum_of") fd → FnG PG w Z.K mg base (rm n) (He.ga Z.K "sum_of") fd ps_25 (spD Z ps_25.length ((rtk n).call 25))
  A_26 : ∀ fd, FunD Z.K "plus" "plus" (defArgs s_26) (defBody s_26) (defScope s_26) [] [] (He.ga Z.K "plus") fd → FnG PG w Z.K mg base (rm n) (He.ga Z.K "plus") fd ps_26 (spD Z ps_26.length ((rtk n).call 26))
  A_27 : ∀ fd, FunD Z.K "minus" "minus" (defArgs s_27) (defBody s_27) (defScope s_27) [] [] (He.ga Z.K "minus") fd → FnG PG w Z.K mg base (rm n) (He.ga Z.K "minus") fd ps_27 (spD Z ps_27.length ((rtk n).call 27))
  A_28 : ∀ fd, FunD Z.K "times" "times" (defArgs s_28) (defBody s_28) (defScope s_28) [] [] (He.ga Z.K "times") fd → FnG PG w Z.K mg base (rm n) (He.ga Z.K "times") fd ps_28 (spD Z ps_28.length ((rtk n).call 28))
  A_29 : ∀ fd, FunD Z.K "over" "over" (defArgs s_29) (defBody s_29) (defScope s_29) [] [] (He.ga Z.K "over") fd → FnG PG w Z.K mg base (rm n) (He.ga Z.K "over") fd ps_29 (spD Z ps_29.length ((rtk n).call 29))
  A_30 : ∀ fd, FunD Z.K "compared" "compared" (defArgs s_30) (defBody s_30) (defScope s_30) [] [] (He.ga Z.K "compared") fd → FnG PG w Z.K mg base (rm n) (He.ga Z.K "compared") fd ps_30 (spD Z ps_30.length ((rtk n).call 30))
  A_31 : ∀ fd, FunD Z.K "total" "total" (defArgs s_31) (defBody s_31) (defScope s_31) [] [] (He.ga Z.K "total") fd → FnG PG w Z.K mg base (rm n) (He.ga Z.K "total") fd ps_31 (spD Z ps_31.length ((rtk n).call 31))
  A_32 : ∀ fd, FunD Z.K "power" "power" (defArgs s_32) (defBody s_32) (defScope s_32) [] [] (He.ga Z.K "power") fd → FnG PG w Z.K mg base (rm n) (He.ga Z.K "power") fd ps_32 (spD Z ps_32.length ((rtk n).call 32))
  A_34 : ∀ fd, FunD Z.K "_law_dice" "_law_dice" (defArgs s_34) (defBody s_34) (defScope s_34) [] [] (He.ga Z.K "_law_dice") fd → FnG PG w Z.K mg base (rm n) (He.ga Z.K "_law_dice") fd ps_34 (spD Z ps_34.length ((rtk n).call 34))
  A_35 : ∀ fd, FunD Z.K "_law_roll" "_law_roll" (defArgs s_35) (defBody s_35) (defScope s_35) [] [] (He.ga Z.K "_law_roll") fd → FnG PG w Z.K mg base (rm n) (He.ga Z.K "_law_roll") fd ps_35 (spD Z ps_35.length ((rtk n).call 35))
  A_36 : ∀ fd, FunD Z.K "_law_pick" "_law_pick" (defArgs s_36) (defBody s_36) (defScope s_36) [] [] (He.ga Z.K "_law_pick") fd → FnG PG w Z.K mg base (rm n) (He.ga Z.K "_law_pick") fd ps_36 (spD Z ps_36.length ((rtk n).call 36))
  A_37 : ∀ fd, FunD Z.K "_law_fr" "_law_fr" (defArgs s_37) (defBody s_37) (defScope s_37) [] [] (He.ga Z.K "_law_fr") fd → FnG PG w Z.K mg base (rm n) (He.ga Z.K "_law_fr") fd ps_37 (spD Z ps_37.length ((rtk n).call 37))
  A_38 : ∀ fd, FunD Z.K "_law_is_number" "_law_is_number" (defArgs s_38) (defBody s_38) (defScope s_38) [] [] (He.ga Z.K "_law_is_number") fd → FnG PG w Z.K mg base (rm n) (He.ga Z.K "_law_is_number") fd ps_38 (spD Z ps_38.length ((rtk n).call 38))
  A_40 : ∀ fd, FunD Z.K "_law_is_name" "_law_is_name" (defArgs s_40) (defBody s_40) (defScope s_40) [] [] (He.ga Z.K "_law_is_name") fd → FnG PG w Z.K mg base (rm n) (He.ga Z.K "_law_is_name") fd ps_40 (spD Z ps_40.length ((rtk n).call 40))
  A_41 : ∀ fd, FunD Z.K "_law_some" "_law_some" (defArgs s_41) (defBody s_41) (defScope s_41) [] [] (He.ga Z.K "_law_some") fd → FnG PG w Z.K mg base (rm n) (He.ga Z.K "_law_some") fd ps_41 (spD Z ps_41.length ((rtk n).call 41))
  A_42 : ∀ fd, FunD Z.K "_law_right" "_law_right" (defArgs s_42) (defBody s_42) (defScope s_42) [] [] (He.ga Z.K "_law_right") fd → FnG PG w Z.K mg base (rm n) (He.ga Z.K "_law_right") fd ps_42 (spD Z ps_42.length ((rtk n).call 42))
  A_43 : ∀ fd, FunD Z.K "law" "law" (defArgs s_43) (defBody s_43) (defScope s_43) [] [] (He.ga Z.K "law") fd → FnG PG w Z.K mg base (rm n) (He.ga Z.K "law") fd ps_43 (spD Z ps_43.length ((rtk n).call 43))
section
variable {w : World} {mg : Str → Option Value} {base : Heap} {Z : Am}
theorem cal_is_integer_1 {n : Nat} (G : Gd w mg Z) (A : AllF w mg base Z n) : Cal PG w mg base Z (rtk n) (rm n) "is_integer" n_is_integer 1 [] := by
  obtain ⟨fd, D⟩ := G.d_13
  have hb : Binds Z.K fd ps_13 [] := D.bindsN fun _ _ _ _ _ _ us hl => match us, hl with | [_], _ => rfl
  exact ⟨_, fd, ps_13, [], [], A.A_13 fd D, G.a_13, D.kp, rfl, hb, .nil, fun _ => RepL.nil⟩
theorem cal_common_divisor_2 {n : Nat} (G : Gd w mg Z) (A : AllF w mg base Z n) : Cal PG w mg base Z (rtk n) (rm n) "common_divisor" n_common_divisor 2 [] := by
  obtain ⟨fd, D⟩ := G.d_15
  have hb : Binds Z.K fd ps_15 [] := D.bindsN fun _ _ _ _ _ _ us hl => match us, hl with | [_, _], _ => rfl
  exact ⟨_, fd, ps_15, [], [], A.A_15 fd D, G.a_15, D.kp, rfl, hb, .nil, fun _ => RepL.nil⟩
theorem cal_reduced_2 {n : Nat} (G : Gd w mg Z) (A : AllF w mg base Z n) : Cal PG w mg base Z (rtk n) (rm n) "reduced" n_reduced 2 [] := by
  obtain ⟨fd, D⟩ := G.d_17
  have hb : Binds Z.K fd ps_17 [] := D.bindsN fun _ _ _ _ _ _ us hl => match us, hl with | [_, _], _ => rfl
  exact ⟨_, fd, ps_17, [], [], A.A_17 fd D, G.a_17, D.kp, rfl, hb, .nil, fun _ => RepL.nil⟩
theorem cal_is_number_1 {n : Nat} (G : Gd w mg Z) (A : AllF w mg base Z n) : Cal PG w mg base Z (rtk n) (rm n) "is_number" n_is_number 1 [] := by
  obtain ⟨fd, D⟩ := G.d_16
  have hb : Binds Z.K fd ps_16 [] := D.bindsN fun _ _ _ _ _ _ us hl => match us, hl with | [_], _ => rfl
  exact ⟨_, fd, ps_16, [], [], A.A_16 fd D, G.a_16, D.kp, rfl, hb, .nil, fun _ => RepL.nil⟩
theorem cal_added_2 {n : Nat} (G : Gd w mg Z) (A : AllF w mg base Z n) : Cal PG w mg base Z (rtk n) (rm n) "added" n_added 2 [] := by
  obtain ⟨fd, D⟩ := G.d_21
  have hb : Binds Z.K fd ps_21 [] := D.bindsN fun _ _ _ _ _ _ us hl => match us, hl with | [_, _], _ => rfl
  exact ⟨_, fd, ps_21, [], [], A.A_21 fd D, G.a_21, D.kp, rfl, hb, .nil, fun _ => RepL.nil⟩
theorem cal_require_number_1 {n : Nat} (G : Gd w mg Z) (A : AllF w mg base Z n) : Cal PG w mg base Z (rtk n) (rm n) "require_number" n_require_number 1 [] := by
  obtain ⟨fd, D⟩ := G.d_19
  have hb : Binds Z.K fd ps_19 [] := D.bindsN fun _ _ _ _ _ _ us hl => match us, hl with | [_], _ => rfl
  exact ⟨_, fd, ps_19, [], [], A.A_19 fd D, G.a_19, D.kp, rfl, hb, .nil, fun _ => RepL.nil⟩
theorem cal_opposite_1 {n : Nat} (G : Gd w mg Z) (A : AllF w mg base Z n) : Cal PG w mg base Z (rtk n) (rm n) "opposite" n_opposite 1 [] := by
  obtain ⟨fd, D⟩ := G.d_23
  have hb : Binds Z.K fd ps_23 [] := D.bindsN fun _ _ _ _ _ _ us hl => match us, hl with | [_], _ => rfl
  exact ⟨_, fd, ps_23, [], [], A.A_23 fd D, G.a_23, D.kp, rfl, hb, .nil, fun _ => RepL.nil⟩
theorem cal_multiplied_2 {n : Nat} (G : Gd w mg Z) (A : AllF w mg base Z n) : Cal PG w mg base Z (rtk n) (rm n) "multiplied" n_multiplied 2 [] := by
  obtain ⟨fd, D⟩ := G.d_22
  have hb : Binds Z.K fd ps_22 [] := D.bindsN fun _ _ _ _ _ _ us hl => match us, hl with | [_, _], _ => rfl
  exact ⟨_, fd, ps_22, [], [], A.A_22 fd D, G.a_22, D.kp, rfl, hb, .nil, fun _ => RepL.nil⟩
theorem cal_divided_2 {n : Nat} (G : Gd w mg Z) (A : AllF w mg base Z n) : Cal PG w mg base Z (rtk n) (rm n) "divided" n_divided 2 [] := by
  obtain ⟨fd, D⟩ := G.d_24
  have hb : Binds Z.K fd ps_24 [] := D.bindsN fun _ _ _ _ _ _ us hl => match us, hl with | [_, _], _ => rfl
  exact ⟨_, fd, ps_24, [], [], A.A_24 fd D, G.a_24, D.kp, rfl, hb, .nil, fun _ => RepL.nil⟩
theorem cal_sum_of_1 {n : Nat} (G : Gd w mg Z) (A : AllF w mg base Z n) : Cal PG w mg base Z (rtk n) (rm n) "sum_of" n_sum_of 1 [] := by
  obtain ⟨fd, D⟩ := G.d_25
  have hb : Binds Z.K fd ps_25 [] := D.bindsN fun _ _ _ _ _ _ us hl => match us, hl with | [_], _ => rfl
  exact ⟨_, fd, ps_25, [], [], A.A_25 fd D, G.a_25, D.kp, rfl, hb, .nil, fun _ => RepL.nil⟩
theorem cal_require_count_1 {n : Nat} (G : Gd w mg Z) (A : AllF w mg base Z n) : Cal PG w mg base Z (rtk n) (rm n) "require_count" n_require_count 1 [.int 0, .int 60] := by
  obtain ⟨fd, D⟩ := G.d_20
  obtain ⟨ds, hd, hb⟩ := FunD.binds1 (ps := ps_20) D 1 0 (by simp) rfl (fun _ _ _ _ _ _ _ us its hu hi => match us, hu, its, hi with | [_], _, [_, _], _ => ⟨_, rfl, rfl⟩)
  exact ⟨_, fd, ps_20, ds, _, A.A_20 fd D, G.a_20, D.kp, rfl, hb, hd, fun _ => (RepL.cons rInt (RepL.cons rInt RepL.nil))⟩
theorem cal__law_roll_2 {n : Nat} (G : Gd w mg Z) (A : AllF w mg base Z n) : Cal PG w mg base Z (rtk n) (rm n) "_law_roll" n__law_roll 2 [] := by
  obtain ⟨fd, D⟩ := G.d_35
  have hb : Binds Z.K fd ps_35 [] := D.bindsN fun _ _ _ _ _ _ us hl => match us, hl with | [_, _], _ => rfl
  exact ⟨_, fd, ps_35, [], [], A.A_35 fd D, G.a_35, D.kp, rfl, hb, .nil, fun _ => RepL.nil⟩
theorem cal__law_fr_2 {n : Nat} (G : Gd w mg Z) (A : AllF w mg base Z n) : Cal PG w mg base Z (rtk n) (rm n) "_law_fr" n__law_fr 2 [] := by
  obtain ⟨fd, D⟩ := G.d_37
  have hb : Binds Z.K fd ps_37 [] := D.bindsN fun _ _ _ _ _ _ us hl => match us, hl with | [_, _], _ => rfl
  exact ⟨_, fd, ps_37, [], [], A.A_37 fd D, G.a_37, D.kp, rfl, hb, .nil, fun _ => RepL.nil⟩
theorem cal__law_pick_2 {n : Nat} (G : Gd w mg Z) (A : AllF w mg base Z n) : Cal PG w mg base Z (rtk n) (rm n) "_law_pick" n__law_pick 2 [] := by
  obtain ⟨fd, D⟩ := G.d_36
  have hb : Binds Z.K fd ps_36 [] := D.bindsN fun _ _ _ _ _ _ us hl => match us, hl with | [_, _], _ => rfl
  exact ⟨_, fd, ps_36, [], [], A.A_36 fd D, G.a_36, D.kp, rfl, hb, .nil, fun _ => RepL.nil⟩
theorem cal__law_some_1 {n : Nat} (G : Gd w mg Z) (A : AllF w mg base Z n) : Cal PG w mg base Z (rtk n) (rm n) "_law_some" n__law_some 1 [] := by
  obtain ⟨fd, D⟩ := G.d_41
  have hb : Binds Z.K fd ps_41 [] := D.bindsN fun _ _ _ _ _ _ us hl => match us, hl with | [_], _ => rfl
  exact ⟨_, fd, ps_41, [], [], A.A_41 fd D, G.a_41, D.kp, rfl, hb, .nil, fun _ => RepL.nil⟩
theorem cal__law_is_number_1 {n : Nat} (G : Gd w mg Z) (A : AllF w mg base Z n) : Cal PG w mg base Z (rtk n) (rm n) "_law_is_number" n__law_is_number 1 [] := by
  obtain ⟨fd, D⟩ := G.d_38
  have hb : Binds Z.K fd ps_38 [] := D.bindsN fun _ _ _ _ _ _ us hl => match us, hl with | [_], _ => rfl
  exact ⟨_, fd, ps_38, [], [], A.A_38 fd D, G.a_38, D.kp, rfl, hb, .nil, fun _ => RepL.nil⟩
theorem cal_is_name_1 {n : Nat} (G : Gd w mg Z) (A : AllF w mg base Z n) : Cal PG w mg base Z (rtk n) (rm n) "is_name" n_is_name 1 [] := by
  obtain ⟨fd, D⟩ := G.d_14
  have hb : Binds Z.K fd ps_14 [] := D.bindsN fun _ _ _ _ _ _ us hl => match us, hl with | [_], _ => rfl
  exact ⟨_, fd, ps_14, [], [], A.A_14 fd D, G.a_14, D.kp, rfl, hb, .nil, fun _ => RepL.nil⟩
theorem cal__law_is_name_1 {n : Nat} (G : Gd w mg Z) (A : AllF w mg base Z n) : Cal PG w mg base Z (rtk n) (rm n) "_law_is_name" n__law_is_name 1 [] := by
  obtain ⟨fd, D⟩ := G.d_40
  have hb : Binds Z.K fd ps_40 [] := D.bindsN fun _ _ _ _ _ _ us hl => match us, hl with | [_], _ => rfl
  exact ⟨_, fd, ps_40, [], [], A.A_40 fd D, G.a_40, D.kp, rfl, hb, .nil, fun _ => RepL.nil⟩
theorem cal_plus_2 {n : Nat} (G : Gd w mg Z) (A : AllF w mg base Z n) : Cal PG w mg base Z (rtk n) (rm n) "plus" n_plus 2 [] := by
  obtain ⟨fd, D⟩ := G.d_26
  have hb : Binds Z.K fd ps_26 [] := D.bindsN fun _ _ _ _ _ _ us hl => match us, hl with | [_, _], _ => rfl
  exact ⟨_, fd, ps_26, [], [], A.A_26 fd D, G.a_26, D.kp, rfl, hb, .nil, fun _ => RepL.nil⟩
theorem cal_minus_2 {n : Nat} (G : Gd w mg Z) (A : AllF w mg base Z n) : Cal PG w mg base Z (rtk n) (rm n) "minus" n_minus 2 [] := by
  obtain ⟨fd, D⟩ := G.d_27
  have hb : Binds Z.K fd ps_27 [] := D.bindsN fun _ _ _ _ _ _ us hl => match us, hl with | [_, _], _ => rfl
  exact ⟨_, fd, ps_27, [], [], A.A_27 fd D, G.a_27, D.kp, rfl, hb, .nil, fun _ => RepL.nil⟩
theorem cal_times_2 {n : Nat} (G : Gd w mg Z) (A : AllF w mg base Z n) : Cal PG w mg base Z (rtk n) (rm n) "times" n_times 2 [] := by
  obtain ⟨fd, D⟩ := G.d_28
  have hb : Binds Z.K fd ps_28 [] := D.bindsN fun _ _ _ _ _ _ us hl => match us, hl with | [_, _], _ => rfl
  exact ⟨_, fd, ps_28, [], [], A.A_28 fd D, G.a_28, D.kp, rfl, hb, .nil, fun _ => RepL.nil⟩
theorem cal_compared_2 {n : Nat} (G : Gd w mg Z) (A : AllF w mg base Z n) : Cal PG w mg base Z (rtk n) (rm n) "compared" n_compared 2 [] := by
  obtain ⟨fd, D⟩ := G.d_30
  have hb : Binds Z.K fd ps_30 [] := D.bindsN fun _ _ _ _ _ _ us hl => match us, hl with | [_, _], _ => rfl
  exact ⟨_, fd, ps_30, [], [], A.A_30 fd D, G.a_30, D.kp, rfl, hb, .nil, fun _ => RepL.nil⟩
theorem cal_over_2 {n : Nat} (G : Gd w mg Z) (A : AllF w mg base Z n) : Cal PG w mg base Z (rtk n) (rm n) "over" n_over 2 [] := by
  obtain ⟨fd, D⟩ := G.d_29
  have hb : Binds Z.K fd ps_29 [] := D.bindsN fun _ _ _ _ _ _ us hl => match us, hl with | [_, _], _ => rfl
  exact ⟨_, fd, ps_29, [], [], A.A_29 fd D, G.a_29, D.kp, rfl, hb, .nil, fun _ => RepL.nil⟩
theorem cal_total_1 {n : Nat} (G : Gd w mg Z) (A : AllF w mg base Z n) : Cal PG w mg base Z (rtk n) (rm n) "total" n_total 1 [] := by
  obtain ⟨fd, D⟩ := G.d_31
  have hb : Binds Z.K fd ps_31 [] := D.bindsN fun _ _ _ _ _ _ us hl => match us, hl with | [_], _ => rfl
  exact ⟨_, fd, ps_31, [], [], A.A_31 fd D, G.a_31, D.kp, rfl, hb, .nil, fun _ => RepL.nil⟩
theorem cal_power_2 {n : Nat} (G : Gd w mg Z) (A : AllF w mg base Z n) : Cal PG w mg base Z (rtk n) (rm n) "power" n_power 2 [] := by
  obtain ⟨fd, D⟩ := G.d_32
  have hb : Binds Z.K fd ps_32 [] := D.bindsN fun _ _ _ _ _ _ us hl => match us, hl with | [_, _], _ => rfl
  exact ⟨_, fd, ps_32, [], [], A.A_32 fd D, G.a_32, D.kp, rfl, hb, .nil, fun _ => RepL.nil⟩
theorem cal_number_2 {n : Nat} (G : Gd w mg Z) (A : AllF w mg base Z n) : Cal PG w mg base Z (rtk n) (rm n) "number" n_number 2 [] := by
  obtain ⟨fd, D⟩ := G.d_18
  obtain ⟨ds, hd, hb⟩ := FunD.binds1 (ps := ps_18) D 2 1 (by simp) rfl (fun _ _ _ _ _ _ _ us its hu hi => match us, hu, its, hi with | [_, _], _, [_], _ => ⟨_, rfl, rfl⟩)
  exact ⟨_, fd, ps_18, ds, _, A.A_18 fd D, G.a_18, D.kp, rfl, hb, hd, fun _ => RepL.nil⟩
theorem cal__law_dice_2 {n : Nat} (G : Gd w mg Z) (A : AllF w mg base Z n) : Cal PG w mg base Z (rtk n) (rm n) "_law_dice" n__law_dice 2 [] := by
  obtain ⟨fd, D⟩ := G.d_34
  have hb : Binds Z.K fd ps_34 [] := D.bindsN fun _ _ _ _ _ _ us hl => match us, hl with | [_, _], _ => rfl
  exact ⟨_, fd, ps_34, [], [], A.A_34 fd D, G.a_34, D.kp, rfl, hb, .nil, fun _ => RepL.nil⟩
theorem cal__law_right_1 {n : Nat} (G : Gd w mg Z) (A : AllF w mg base Z n) : Cal PG w mg base Z (rtk n) (rm n) "_law_right" n__law_right 1 [] := by
  obtain ⟨fd, D⟩ := G.d_42
  have hb : Binds Z.K fd ps_42 [] := D.bindsN fun _ _ _ _ _ _ us hl => match us, hl with | [_], _ => rfl
  exact ⟨_, fd, ps_42, [], [], A.A_42 fd D, G.a_42, D.kp, rfl, hb, .nil, fun _ => RepL.nil⟩
theorem factsOf0 {n : Nat} (G : Gd w mg Z) (A : AllF w mg base Z n) : Facts0 PG w mg base Z (rtk n) (rm n) := ⟨G.no, G.b_isinstance, G.b_int, G.b_bool, G.b_str, G.b_len, G.b_all, G.b_abs, G.b_tuple, G.b_range, G.b_max, G.b_repr, G.b_min, G.g_MAX_LETTERS, G.g_LETTERS, G.g_SIGNS, G.g_MOST_PASSED, G.g_NOUGHT, G.g_ONE, cal_is_integer_1 G A, cal_common_divisor_2 G A, cal_reduced_2 G A, cal_is_number_1 G A, cal_added_2 G A, cal_require_number_1 G A, cal_opposite_1 G A, cal_multiplied_2 G A, cal_divided_2 G A, cal_sum_of_1 G A, cal_require_count_1 G A, cal__law_roll_2 G A, cal__law_fr_2 G A, cal__law_pick_2 G A, cal__law_some_1 G A, cal__law_is_number_1 G A, cal_is_name_1 G A, cal__law_is_name_1 G A, cal_plus_2 G A, cal_minus_2 G A, cal_times_2 G A, cal_compared_2 G A, cal_over_2 G A, cal_total_1 G A, cal_power_2 G A, cal_number_2 G A, cal__law_dice_2 G A, cal__law_right_1 G A, G.r_InvalidFraction, G.v_InvalidCount, G.v_Refused, G.h_Refused, G.h_InvalidCount, G.h_InvalidFraction, G.x_Refused, G.x_InvalidCount⟩
theorem wd_39 {n : Nat} (G : Gd w mg Z) (A : AllF w mg base Z n) : Wd PG w mg base Z.toBm Z.T (rtk n) (rm n) "_law_word" 2 m__law_word := by
  obtain ⟨fd, D⟩ := G.d_39
  have b := L2.FunD.bindsA (ps := ps_39) D fun _ _ _ _ _ _ us hl => match us, hl with | [_], _ => rfl
  exact ⟨_, fd, _, _, _, "call", N_39, D, sc_39, rfl, rfl, (.inl (by kernel_rfl)), nmOk_of (by decide +kernel), G.a_39, D.kp, fun s u => b s [u] rfl, fun lam lamK r cdv A0 outer s H E no hr hact => b_39 ((factsOf0 G A).lam (plain_rtN _ _ _) no) r _ cdv A0 outer s H E hr hact⟩
theorem factsOf {n : Nat} (G : Gd w mg Z) (A : AllF w mg base Z n) : Facts PG w mg base Z (rtk n) (rm n) := ⟨factsOf0 G A, trivial, wd_39 G A⟩
theorem allF (G : Gd w mg Z) (TB : ∀ p ∈ tf, TabB base mg (He.cT Z.K p).1 (He.cT Z.K p).2) : ∀ n, AllF w mg base Z n
  | 0 => ⟨fun _ _ => fnG_zero, fun _ _ => fnG_zero, fun _ _ => fnG_zero, fun _ _ => fnG_zero, fun _ _ => fnG_zero, fun _ _ => fnG_zero, fun _ _ => fnG_zero, fun _ _ => fnG_zero, fun _ _ => fnG_zero, fun _ _ => fnG_zero, fun _ _ => fnG_zero, fun _ _ => fnG_zero, fun _ _ => fnG_zero, fun _ _ => fnG_zero, fun _ _ => fnG_zero, fun _ _ => fnG_zero, fun _ _ => fnG_zero, fun _ _ => fnG_zero, fun _ _ => fnG_zero, fun _ _ => fnG_zero, fun _ _ => fnG_zero, fun _ _ => fnG_zero, fun _ _ => fnG_zero, fun _ _ => fnG_zero, fun _ _ => fnG_zero, fun _ _ => fnG_zero, fun _ _ => fnG_zero, fun _ _ => fnG_zero, fun _ _ => fnG_zero⟩
  | n + 1 => ⟨fun _ D => fnG_of D sc_13 fun cdv A outer s H E hr => b_13 (factsOf G (allF G TB n)) _ cdv A outer s H E hr,
    fun _ D => fnG_of D sc_14 fun cdv A outer s H E hr => b_14 (factsOf G (allF G TB n)) _ cdv A outer s H E hr,
    fun _ D => fnG_of D sc_15 fun cdv A outer s H E hr => b_15 (factsOf G (allF G TB n)) _ cdv A outer s H E hr,
    fun _ D => fnG_of D sc_16 fun cdv A outer s H E hr => b_16 (factsOf G (allF G TB n)) _ cdv A outer s H E hr,
    fun _ D => fnG_of D sc_17 fun cdv A outer s H E hr => b_17 (factsOf G (allF G TB n)) _ cdv A outer s H E hr,
    fun _ D => fnG_of D sc_18 fun cdv A outer s H E hr => b_18 (factsOf G (allF G TB n)) _ cdv A outer s H E hr,
    fun _ D => fnG_of D sc_19 fun cdv A outer s H E hr => b_19 (factsOf G (allF G TB n)) _ cdv A outer s H E hr,
    fun _ D => fnG_of D sc_20 fun cdv A outer s H E hr => b_20 (factsOf G (allF G TB n)) _ cdv A outer s H E hr,
    fun _ D => fnG_of D sc_21 fun cdv A outer s H E hr => b_21 (factsOf G (allF G TB n)) _ cdv A outer s H E hr,
    fun _ D => fnG_of D sc_22 fun cdv A outer s H E hr => b_22 (factsOf G (allF G TB n)) _ cdv A outer s H E hr,
    fun _ D => fnG_of D sc_23 fun cdv A outer s H E hr => b_23 (factsOf G (allF G TB n)) _ cdv A outer s H E hr,
    fun _ D => fnG_of D sc_24 fun cdv A outer s H E hr => b_24 (factsOf G (allF G TB n)) _ cdv A outer s H E hr,
    fun _ D => fnG_of D sc_25 fun cdv A outer s H E hr => b_25 (factsOf G (allF G TB n)) _ cdv A outer s H E hr,
    fun _ D => fnG_of D sc_26 fun cdv A outer s H E hr => b_26 (factsOf G (allF G TB n)) _ cdv A outer s H E hr,
    fun _ D => fnG_of D sc_27 fun cdv A outer s H E hr => b_27 (factsOf G (allF G TB n)) _ cdv A outer s H E hr,
    fun _ D => fnG_of D sc_28 fun cdv A outer s H E hr => b_28 (factsOf G (allF G TB n)) _ cdv A outer s H E hr,
    fun _ D => fnG_of D sc_29 fun cdv A outer s H E hr => b_29 (factsOf G (allF G TB n)) _ cdv A outer s H E hr,
    fun _ D => fnG_of D sc_30 fun cdv A outer s H E hr => b_30 (factsOf G (allF G TB n)) _ cdv A outer s H E hr,
    fun _ D => fnG_of D sc_31 fun cdv A outer s H E hr => b_31 (factsOf G (allF G TB n)) _ cdv A outer s H E hr,
    fun _ D => fnG_of D sc_32 fun cdv A outer s H E hr => b_32 (factsOf G (allF G TB n)) _ cdv A outer s H E hr,
    fun _ D => fnG_of D sc_34 fun cdv A outer s H E hr => b_34 (factsOf G (allF G TB n)) _ cdv A outer s H E hr,
    fun _ D => fnG_of D sc_35 fun cdv A outer s H E hr => b_35 (factsOf G (allF G TB n)) _ cdv A outer s H E hr,
    fun _ D => fnG_of D sc_36 fun cdv A outer s H E hr => b_36 (factsOf G (allF G TB n)) _ cdv A outer s H E hr,
    fun _ D => fnG_of D sc_37 fun cdv A outer s H E hr => b_37 (factsOf G (allF G TB n)) _ cdv A outer s H E hr,
    fun _ D => fnG_of D sc_38 fun cdv A outer s H E hr => b_38 (factsOf G (allF G TB n)) _ cdv A outer s H E hr,
    fun _ D => fnG_of D sc_40 fun cdv A outer s H E hr => b_40 (factsOf G (allF G TB n)) _ cdv A outer s H E hr,
    fun _ D => fnG_of D sc_41 fun cdv A outer s H E hr => b_41 (factsOf G (allF G TB n)) _ cdv A outer s H E hr,
    fun _ D => fnG_ofL (p := ("_law_right", none)) (L := L_42) D sc_42 fun cdv A outer s H E hcd hr => b_42 (factsOf G (allF G TB n)) (plain_rtN _ _ _) _ cdv A outer s H E hcd (TB _ (by simp [tf])) G.t_42.1 G.t_42.2 hr,
    fun _ D => fnG_ofL (p := ("law", none)) (L := L_43) D sc_43 fun cdv A outer s H E hcd hr => b_43 (factsOf G (allF G TB n)) (plain_rtN _ _ _) _ cdv A outer s H E hcd (TB _ (by simp [tf])) G.t_43.1 G.t_43.2 hr⟩
end
/-! ### the head -/
def fa0 : List He.Fa := [.glo "is_integer", .glo "is_name", .glo "common_divisor", .glo "is_number", .glo "reduced", .glo "number", .glo "require_number", .glo "require_count", .glo "added", .glo "multiplied", .glo "opposite", .glo "divided", .glo "sum_of", .glo "plus", .glo "minus", .glo "times", .glo "over", .glo "compared", .glo "total", .glo "power"]
def fa1 : List He.Fa := [.glo "_law_dice", .glo "_law_roll", .glo "_law_pick", .glo "_law_fr", .glo "_law_is_number", .glo "_law_word", .glo "_law_is_name", .glo "_law_some", .glo "_law_right", .glo "law", .glo "TieError", .glo "InvalidFraction", .glo "InvalidCount", .glo "Refused", .free "isinstance", .free "int", .free "bool", .free "str", .free "len", .free "all"]
def fa2 : List He.Fa := [.free "abs", .free "tuple", .free "range", .free "max", .free "repr", .free "min", .free "super", .exm "TieError" "Refused" false, .exm "InvalidFraction" "Refused" false, .exm "InvalidCount" "Refused" false, .exm "Refused" "Refused" true, .exm "TieError" "InvalidCount" false, .exm "InvalidFraction" "InvalidCount" false, .exm "InvalidCount" "InvalidCount" true, .exm "Refused" "InvalidCount" false, .exm "TieError" "InvalidFraction" false, .exm "InvalidFraction" "InvalidFraction" true, .exm "InvalidCount" "InvalidFraction" false, .exm "Refused" "InvalidFraction" false, .int "MAX_LETTERS" 12]
def fa3 : List He.Fa := [.str "LETTERS" "abcdefghijklmnopqrstuvwxyz", .str "SIGNS" "abcdefghijklmnopqrstuvwxyz0123456789.", .int "MOST_PASSED" 10000000000000000000000000000000000000000, .glo "NOUGHT", .glo "ONE"]
def fa : List He.Fa := fa0 ++ fa1 ++ fa2 ++ fa3
def dd_13 : He.DefD := ⟨("is_integer", none), "is_integer", "is_integer", defArgs s_13, defBody s_13, defScope s_13, [], []⟩
def dd_14 : He.DefD := ⟨("is_name", none), "is_name", "is_name", defArgs s_14, defBody s_14, defScope s_14, [], []⟩
def dd_15 : He.DefD := ⟨("common_divisor", none), "common_divisor", "common_divisor", defArgs s_15, defBody s_15, defScope s_15, [], []⟩
def dd_16 : He.DefD := ⟨("is_number", none), "is_number", "is_number", defArgs s_16, defBody s_16, defScope s_16, [], []⟩
def dd_17 : He.DefD := ⟨("reduced", none), "reduced", "reduced", defArgs s_17, defBody s_17, defScope s_17, [], []⟩
def dd_18 : He.DefD := ⟨("number", none), "number", "number", defArgs s_18, defBody s_18, defScope s_18, [.int 1], []⟩
def dd_19 : He.DefD := ⟨("require_number", none), "require_number", "require_number", defArgs s_19, defBody s_19, defScope s_19, [], []⟩
def dd_20 : He.DefD := ⟨("require_count", none), "require_count", "require_count", defArgs s_20, defBody s_20, defScope s_20, [.int 0, .int 60], []⟩
def dd_21 : He.DefD := ⟨("added", none), "added", "added", defArgs s_21, defBody s_21, defScope s_21, [], []⟩
def dd_22 : He.DefD := ⟨("multiplied", none), "multiplied", "multiplied", defArgs s_22, defBody s_22, defScope s_22, [], []⟩
def dd_23 : He.DefD := ⟨("opposite", none), "opposite", "opposite", defArgs s_23, defBody s_23, defScope s_23, [], []⟩
def dd_24 : He.DefD := ⟨("divided", none), "divided", "divided", defArgs s_24, defBody s_24, defScope s_24, [], []⟩
def dd_25 : He.DefD := ⟨("sum_of", none), "sum_of", "sum_of", defArgs s_25, defBody s_25, defScope s_25, [], []⟩
def dd_26 : He.DefD := ⟨("plus", none), "plus", "plus", defArgs s_26, defBody s_26, defScope s_26, [], []⟩
def dd_27 : He.DefD := ⟨("minus", none), "minus", "minus", defArgs s_27, defBody s_27, defScope s_27, [], []⟩
def dd_28 : He.DefD := ⟨("times", none), "times", "times", defArgs s_28, defBody s_28, defScope s_28, [], []⟩
def dd_29 : He.DefD := ⟨("over", none), "over", "over", defArgs s_29, defBody s_29, defScope s_29, [], []⟩
def dd_30 : He.DefD := ⟨("compared", none), "compared", "compared", defArgs s_30, defBody s_30, defScope s_30, [], []⟩
def dd_31 : He.DefD := ⟨("total", none), "total", "total", defArgs s_31, defBody s_31, defScope s_31, [], []⟩
def dd_32 : He.DefD := ⟨("power", none), "power", "power", defArgs s_32, defBody s_32, defScope s_32, [], []⟩
def dd_34 : He.DefD := ⟨("_law_dice", none), "_law_dice", "_law_dice", defArgs s_34, defBody s_34, defScope s_34, [], []⟩
def dd_35 : He.DefD := ⟨("_law_roll", none), "_law_roll", "_law_roll", defArgs s_35, defBody s_35, defScope s_35, [], []⟩
def dd_36 : He.DefD := ⟨("_law_pick", none), "_law_pick", "_law_pick", defArgs s_36, defBody s_36, defScope s_36, [], []⟩
def dd_37 : He.DefD := ⟨("_law_fr", none), "_law_fr", "_law_fr", defArgs s_37, defBody s_37, defScope s_37, [], []⟩
def dd_38 : He.DefD := ⟨("_law_is_number", none), "_law_is_number", "_law_is_number", defArgs s_38, defBody s_38, defScope s_38, [], []⟩
def dd_39 : He.DefD := ⟨("_law_word", none), "_law_word", "_law_word", defArgs s_39, defBody s_39, defScope s_39, [], []⟩
def dd_40 : He.DefD := ⟨("_law_is_name", none), "_law_is_name", "_law_is_name", defArgs s_40, defBody s_40, defScope s_40, [], []⟩
def dd_41 : He.DefD := ⟨("_law_some", none), "_law_some", "_law_some", defArgs s_41, defBody s_41, defScope s_41, [], []⟩
def dd_42 : He.DefD := ⟨("_law_right", none), "_law_right", "_law_right", defArgs s_42, defBody s_42, defScope s_42, [], []⟩
def dd_43 : He.DefD := ⟨("law", none), "law", "law", defArgs s_43, defBody s_43, defScope s_43, [], []⟩
def fn0 : List He.DefD := [dd_13, dd_14, dd_15, dd_16, dd_17, dd_18, dd_19, dd_20, dd_21, dd_22, dd_23, dd_24, dd_25, dd_26, dd_27, dd_28, dd_29, dd_30, dd_31, dd_32]
def fn1 : List He.DefD := [dd_34, dd_35, dd_36, dd_37, dd_38, dd_39, dd_40, dd_41, dd_42, dd_43]
def fn : List He.DefD := fn0 ++ fn1
abbrev si_InvalidCount : Stmt := atS (inS (top 3)) 0
def id_InvalidCount : InD := ⟨"InvalidCount", "InvalidCount.__init__", defArgs si_InvalidCount, defBody si_InvalidCount, defScope si_InvalidCount⟩
abbrev si_Refused : Stmt := atS (inS (top 4)) 0
def id_Refused : InD := ⟨"Refused", "Refused.__init__", defArgs si_Refused, defBody si_Refused, defScope si_Refused⟩
def ins : List InD := [id_InvalidCount, id_Refused]
def exL : List (PySem.W.Frag → Bool) := [fun K => He.tupB K "NOUGHT" [.int 0, .int 1],
  fun K => He.tupB K "ONE" [.int 1, .int 1],
  fun K => raB K "InvalidFraction" "ValueError.__new__" [.type "ValueError", .type "Exception", .type "BaseException", .type "object"],
  fun K => supB K PG.main.file "InvalidCount" "InvalidCount.__init__" "IndexError" "IndexError.__new__" "IndexError.__init__" [.type "IndexError", .type "LookupError", .type "Exception", .type "BaseException", .type "object"] "given",
  fun K => supB K PG.main.file "Refused" "Refused.__init__" "ArithmeticError" "ArithmeticError.__new__" "ArithmeticError.__init__" [.type "ArithmeticError", .type "Exception", .type "BaseException", .type "object"] "reason",
  fun K => xcB K "Refused" "reason",
  fun K => xcB K "InvalidCount" "given",
  fun K => nodB (tf.map fun p => (He.cT K p).2)]
def ex (K : PySem.W.Frag) : Bool := exL.all fun f => f K
abbrev R : PySem.W.OpenRow := PySem.W.OpenLaw.row PySem.Challenge.rw_nextties_k22_errors_and_judges_of_number
abbrev hk : PySem.W.Hook := hookY 4 fa fn tf ins ex
def ob (s : PySem.W.SharedT) : AlY := obsY 4 fa fn tf ins ex (HandSHeadRun.getT s)
theorem ob_eq (s : PySem.W.SharedT) : ob s = hk.obs s.abs := obsY_eq (HandSHeadRun.getT_eq s)
def lo0 : List Str := ["TieError", "ValueError", "InvalidFraction", "InvalidCount", "IndexError", "Refused", "ArithmeticError", "NOUGHT", "ONE", "MAX_LETTERS", "MAX_COUNT", "MOST_PASSED", "LETTERS", "SIGNS", "is_integer", "is_name", "common_divisor", "is_number", "reduced", "number"]
def lo1 : List Str := ["require_number", "require_count", "added", "multiplied", "opposite", "divided", "sum_of", "plus", "minus", "times", "over", "compared", "total", "power", "_law_dice", "_law_roll", "_law_pick", "_law_fr", "_law_is_number", "_law_word"]
def lo2 : List Str := ["_law_is_name", "_law_some", "_law_right"]
def lo : List Str := lo0 ++ lo1 ++ lo2
abbrev vw : Program := PySem.W.view R.prog [43]
theorem run (w : World) : HandSHeadRun.RunEq R vw hk ob 6000 lo w := by
  intro os
  kernel_rfl
def caK (K : PySem.W.Frag) : Nat → Option Addr := fun c => match c with
  | 1 => some (He.ga K "TieError")
  | 2 => some (He.ga K "InvalidFraction")
  | 3 => some (He.ga K "InvalidCount")
  | 4 => some (He.ga K "Refused")
  | _ => none
def flK : Nat → List Str := fun c => match c with
  | 3 => ["given"]
  | 4 => ["reason"]
  | _ => []
def ZK (K : PySem.W.Frag) : Am := ⟨⟨K, fun _ => none, caK K, flK, fun _ _ _ => False, fun _ _ _ _ h _ => h⟩, tabL K tf, fun _ _ _ _ => False, fun _ _ _ _ _ _ h _ => h⟩
theorem gd {w : World} {K : PySem.W.Frag} {h : Heap} {mg : Str → Option Value} (X : K.In h) (G : h.Ns mainGlobals mg) (c : SaysY fa fn tf ins ex w h K) : Gd w mg (ZK K) := by
  have D := c.x.t.d
  have gl : ∀ {x : Str}, He.Fa.glo x ∈ fa → mg x = some (.ref (He.ga K x)) := fun hm => He.glo_ok X G (D.facts hm)
  have fr : ∀ {x : Str}, He.Fa.free x ∈ fa → mg x = none := fun hm => He.free_ok X G (D.facts hm)
  have mo : ∀ (i : Nat) (f : PySem.W.Frag → Bool), exL[i]? = some f → f K = true := fun i f hf => List.all_eq_true.mp (show (exL.all fun f => f K) = true from c.x.more) f (List.mem_of_getElem? hf)
  have ii : ∀ (i : Nat) (d : InD), ins[i]? = some d → fnI K d.cls = d.val := fun i d hd => by
    have e := congrArg (fun l : List FnI => l[i]?) c.i
    simp only [List.getElem?_map, hd, Option.map_some] at e
    exact Option.some.inj e
  have S_InvalidCount : ∃ arg, SupC PG K mg (He.ga K "InvalidCount") arg "given" "given" ∧ notStar arg = true ∧ ArgK PG w arg "given" true := by
    have z := supC_of (P := PG) (mg := mg) (d := id_InvalidCount) (par := "given") (f := "given") ⟨PySem.F.excBase_IndexError, PySem.W.kxs_IndexError, PySem.F.store_IndexError⟩ (mo 3 _ rfl) (ii 0 _ rfl) rfl rfl rfl rfl rfl (by decide +kernel) (by kernel_rfl) (by kernel_rfl) (by kernel_rfl) (by kernel_rfl) (by decide +kernel) (by kernel_rfl) (by kernel_rfl) (by kernel_rfl) (by decide +kernel) (by decide +kernel) (fun _ _ _ _ _ _ _ _ _ => rfl) (fr (List.mem_of_getElem? (i := 46) rfl)) (by kernel_rfl)
    exact ⟨_, z, rfl, argK_repr (by decide +kernel) (by decide +kernel)⟩
  obtain ⟨a_InvalidCount, S_InvalidCount, st_InvalidCount, ak_InvalidCount⟩ := S_InvalidCount
  have S_Refused : ∃ arg, SupC PG K mg (He.ga K "Refused") arg "reason" "reason" ∧ notStar arg = true ∧ ArgK PG w arg "reason" false := by
    have z := supC_of (P := PG) (mg := mg) (d := id_Refused) (par := "reason") (f := "reason") ⟨PySem.F.excBase_ArithmeticError, PySem.W.kxs_ArithmeticError, PySem.F.store_ArithmeticError⟩ (mo 4 _ rfl) (ii 1 _ rfl) rfl rfl rfl rfl rfl (by decide +kernel) (by kernel_rfl) (by kernel_rfl) (by kernel_rfl) (by kernel_rfl) (by decide +kernel) (by kernel_rfl) (by kernel_rfl) (by kernel_rfl) (by decide +kernel) (by decide +kernel) (fun _ _ _ _ _ _ _ _ _ => rfl) (fr (List.mem_of_getElem? (i := 46) rfl)) (by kernel_rfl)
    exact ⟨_, z, rfl, argK_const⟩
  obtain ⟨a_Refused, S_Refused, st_Refused, ak_Refused⟩ := S_Refused
  have h_Refused : HdF mg (ZK K).toBm "Refused" fm_Refused := by
    refine ⟨_, gl (List.mem_of_getElem? (i := 33) rfl), fun c A h => ?_⟩
    have h : caK K c = some A := h
    unfold caK at h
    split at h
    · cases h; exact He.exm_ok (D.facts (List.mem_of_getElem? (i := 47) rfl))
    · cases h; exact He.exm_ok (D.facts (List.mem_of_getElem? (i := 48) rfl))
    · cases h; exact He.exm_ok (D.facts (List.mem_of_getElem? (i := 49) rfl))
    · cases h; exact He.exm_ok (D.facts (List.mem_of_getElem? (i := 50) rfl))
    · cases h
  have h_InvalidCount : HdF mg (ZK K).toBm "InvalidCount" fm_InvalidCount := by
    refine ⟨_, gl (List.mem_of_getElem? (i := 32) rfl), fun c A h => ?_⟩
    have h : caK K c = some A := h
    unfold caK at h
    split at h
    · cases h; exact He.exm_ok (D.facts (List.mem_of_getElem? (i := 51) rfl))
    · cases h; exact He.exm_ok (D.facts (List.mem_of_getElem? (i := 52) rfl))
    · cases h; exact He.exm_ok (D.facts (List.mem_of_getElem? (i := 53) rfl))
    · cases h; exact He.exm_ok (D.facts (List.mem_of_getElem? (i := 54) rfl))
    · cases h
  have h_InvalidFraction : HdF mg (ZK K).toBm "InvalidFraction" fm_InvalidFraction := by
    refine ⟨_, gl (List.mem_of_getElem? (i := 31) rfl), fun c A h => ?_⟩
    have h : caK K c = some A := h
    unfold caK at h
    split at h
    · cases h; exact He.exm_ok (D.facts (List.mem_of_getElem? (i := 55) rfl))
    · cases h; exact He.exm_ok (D.facts (List.mem_of_getElem? (i := 56) rfl))
    · cases h; exact He.exm_ok (D.facts (List.mem_of_getElem? (i := 57) rfl))
    · cases h; exact He.exm_ok (D.facts (List.mem_of_getElem? (i := 58) rfl))
    · cases h
  have x_Refused : XfF (ZK K).toBm fm_Refused "reason" := by
    refine ⟨fun c A hf h => ?_⟩
    have h : caK K c = some A := h
    unfold caK at h
    split at h
    · exact absurd hf (by decide)
    · exact absurd hf (by decide)
    · exact absurd hf (by decide)
    · cases h; exact ⟨rfl, xcB_ok (mo 5 _ rfl)⟩
    · cases h
  have x_InvalidCount : XfF (ZK K).toBm fm_InvalidCount "given" := by
    refine ⟨fun c A hf h => ?_⟩
    have h : caK K c = some A := h
    unfold caK at h
    split at h
    · exact absurd hf (by decide)
    · exact absurd hf (by decide)
    · cases h; exact ⟨rfl, xcB_ok (mo 6 _ rfl)⟩
    · exact absurd hf (by decide)
    · cases h
  exact ⟨fun _ _ _ h => h,
    fr (List.mem_of_getElem? (i := 34) rfl),
    fr (List.mem_of_getElem? (i := 35) rfl),
    fr (List.mem_of_getElem? (i := 36) rfl),
    fr (List.mem_of_getElem? (i := 37) rfl),
    fr (List.mem_of_getElem? (i := 38) rfl),
    fr (List.mem_of_getElem? (i := 39) rfl),
    fr (List.mem_of_getElem? (i := 40) rfl),
    fr (List.mem_of_getElem? (i := 41) rfl),
    fr (List.mem_of_getElem? (i := 42) rfl),
    fr (List.mem_of_getElem? (i := 43) rfl),
    fr (List.mem_of_getElem? (i := 44) rfl),
    fr (List.mem_of_getElem? (i := 45) rfl),
    glv_int X G (D.fact 59 rfl),
    glv_str X G (D.fact 60 rfl) (by decide +kernel),
    glv_str X G (D.fact 61 rfl) (by decide +kernel),
    glv_int X G (D.fact 62 rfl),
    glv_tup (gl (List.mem_of_getElem? (i := 63) rfl)) rfl (mo 0 _ rfl) (fun _ => (RepL.cons rInt (RepL.cons rInt RepL.nil))),
    glv_tup (gl (List.mem_of_getElem? (i := 64) rfl)) rfl (mo 1 _ rfl) (fun _ => (RepL.cons rInt (RepL.cons rInt RepL.nil))),
    raM_of (mo 2 _ rfl) PySem.F.excBase_ValueError rfl (gl (List.mem_of_getElem? (i := 31) rfl)),
    ⟨_, a_InvalidCount, "given", "given", rfl, gl (List.mem_of_getElem? (i := 32) rfl), S_InvalidCount, st_InvalidCount, ak_InvalidCount, rfl⟩,
    ⟨_, a_Refused, "reason", "reason", rfl, gl (List.mem_of_getElem? (i := 33) rfl), S_Refused, st_Refused, ak_Refused, rfl⟩,
    h_Refused,
    h_InvalidCount,
    h_InvalidFraction,
    x_Refused,
    x_InvalidCount,
    ⟨tab_mem (List.mem_of_getElem? (i := 0) rfl), tab_uni (mo 7 _ rfl) (List.mem_of_getElem? (i := 0) rfl)⟩,
    ⟨tab_mem (List.mem_of_getElem? (i := 1) rfl), tab_uni (mo 7 _ rfl) (List.mem_of_getElem? (i := 1) rfl)⟩,
    D.def_ 0 (d := dd_13) rfl,
    gl (List.mem_of_getElem? (i := 0) rfl),
    D.def_ 1 (d := dd_14) rfl,
    gl (List.mem_of_getElem? (i := 1) rfl),
    D.def_ 2 (d := dd_15) rfl,
    gl (List.mem_of_getElem? (i := 2) rfl),
    D.def_ 3 (d := dd_16) rfl,
    gl (List.mem_of_getElem? (i := 3) rfl),
    D.def_ 4 (d := dd_17) rfl,
    gl (List.mem_of_getElem? (i := 4) rfl),
    D.def_ 5 (d := dd_18) rfl,
    gl (List.mem_of_getElem? (i := 5) rfl),
    D.def_ 6 (d := dd_19) rfl,
    gl (List.mem_of_getElem? (i := 6) rfl),
    D.def_ 7 (d := dd_20) rfl,
    gl (List.mem_of_getElem? (i := 7) rfl),
    D.def_ 8 (d := dd_21) rfl,
    gl (List.mem_of_getElem? (i := 8) rfl),
    D.def_ 9 (d := dd_22) rfl,
    gl (List.mem_of_getElem? (i := 9) rfl),
    D.def_ 10 (d := dd_23) rfl,
    gl (List.mem_of_getElem? (i := 10) rfl),
    D.def_ 11 (d := dd_24) rfl,
    gl (List.mem_of_getElem? (i := 11) rfl),
    D.def_ 12 (d := dd_25) rfl,
    gl (List.mem_of_getElem? (i := 12) rfl),
    D.def_ 13 (d := dd_26) rfl,
    gl (List.mem_of_getElem? (i := 13) rfl),
    D.def_ 14 (d := dd_27) rfl,
    gl (List.mem_of_getElem? (i := 14) rfl),
    D.def_ 15 (d := dd_28) rfl,
    gl (List.mem_of_getElem? (i := 15) rfl),
    D.def_ 16 (d := dd_29) rfl,
    gl (List.mem_of_getElem? (i := 16) rfl),
    D.def_ 17 (d := dd_30) rfl,
    gl (List.mem_of_getElem? (i := 17) rfl),
    D.def_ 18 (d := dd_31) rfl,
    gl (List.mem_of_getElem? (i := 18) rfl),
    D.def_ 19 (d := dd_32) rfl,
    gl (List.mem_of_getElem? (i := 19) rfl),
    D.def_ 20 (d := dd_34) rfl,
    gl (List.mem_of_getElem? (i := 20) rfl),
    D.def_ 21 (d := dd_35) rfl,
    gl (List.mem_of_getElem? (i := 21) rfl),
    D.def_ 22 (d := dd_36) rfl,
    gl (List.mem_of_getElem? (i := 22) rfl),
    D.def_ 23 (d := dd_37) rfl,
    gl (List.mem_of_getElem? (i := 23) rfl),
    D.def_ 24 (d := dd_38) rfl,
    gl (List.mem_of_getElem? (i := 24) rfl),
    D.def_ 25 (d := dd_39) rfl,
    gl (List.mem_of_getElem? (i := 25) rfl),
    D.def_ 26 (d := dd_40) rfl,
    gl (List.mem_of_getElem? (i := 26) rfl),
    D.def_ 27 (d := dd_41) rfl,
    gl (List.mem_of_getElem? (i := 27) rfl),
    D.def_ 28 (d := dd_42) rfl,
    gl (List.mem_of_getElem? (i := 28) rfl),
    D.def_ 29 (d := dd_43) rfl,
    gl (List.mem_of_getElem? (i := 29) rfl)⟩
end Lw
open PySem PySem.W PySem.Calls PyProof.Rows
theorem PySem.Challenge.cw_nextties_k22_errors_and_judges_of_number_holds : PySem.Challenge.rw_nextties_k22_errors_and_judges_of_number.Holds := by
  w_on; o_law
  refine HandSHeadRun.head_any (r := OpenLaw.row PySem.Challenge.rw_nextties_k22_errors_and_judges_of_number) (q := Lw.vw) (H := Lw.hk) (ob := Lw.ob) (M := 6000) (loose := Lw.lo) (d := HandSHeadRun.topDef (OpenLaw.row PySem.Challenge.rw_nextties_k22_errors_and_judges_of_number).prog 43) (kwd := []) Lw.ob_eq
    (by kernel_rfl) (fun s => by kernel_rfl) Lw.run (by kernel_rfl) (by kernel_rfl) (by kernel_rfl) (by rfl) (by first | assumption | decide +kernel) (by decide +kernel) ⟨rfl, rfl, rfl, rfl, rfl, by decide +kernel⟩ ?hw ?hc
  case hw => w_witness2
  case hc =>
    refine FW.walk_ofT (l := PySem.Challenge.rw_nextties_k22_errors_and_judges_of_number) (n := 63) (k := FW.rm 30) (x := "script") (call := (Lw.rtk 30).call 43) rfl (by decide) (by kernel_rfl) ⟨rfl, by decide, by decide⟩ ?F (fun ns hl => Lw.law_true ns hl)
    intro w mg fA h Y G hmg0
    obtain ⟨K, KX, c⟩ := Y
    have hmg : mg ("law" : PySem.Str) = some (.ref fA) := by
      have e : (HandSHeadRun.topDef (OpenLaw.row PySem.Challenge.rw_nextties_k22_errors_and_judges_of_number).prog 43).name = ("law" : PySem.Str) := by kernel_rfl
      rw [← e]
      exact hmg0
    have D := Lw.gd KX G c
    obtain ⟨fd, F⟩ := D.d_43
    cases hmg.symm.trans D.a_43
    have b := L2.FunD.bindsA (ps := Lw.ps_43) F fun _ _ _ _ _ _ us hl => match us, hl with | [_], _ => rfl
    refine ⟨Lw.ZK K, fd, Lw.tf.map (He.cT K), KX, FW.cs_all c.x.empty, FW.cs_all c.x.out, FW.cs_all (fun p hp => PySem.W.codeHd_of_K KX (c.x.hd p hp)), FW.tabL_in, fun s v => b s [v] rfl, fun base _ _ TB => (Lw.allF D (fun p hp => TB _ (List.mem_map.mpr ⟨p, hp, rfl⟩)) 30).A_43 fd F⟩
