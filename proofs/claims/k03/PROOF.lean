import PyProof.Rows.All
import Wide.All
import OpenK.AllK
import Wide.FinOn
import HandS.ForMost
import HandS.Wide
import HandS.Style
import HandS.Flow
import HandS.TupAny
import HandS.IsInst
import HandS.Conv
import KE.DataEq
import HandS.Star
import HandS.TryOnly
import HandS.Zip
import KE.SortData
import HandS.More
import HandS.Zip0
import KE.KDictZip
import KE.KItemsList
import HandS.Dict
import HandS.Defaults
import HandS.HeadHook1
import HandS.HeadHook2
import HandS.HeadHook3
import HandS.Head0
import HandS.Head1
import HandS.Head2
import HandS.HeadEnd
import KE.KStateDown
import PySem.Challenge.RW_scaledcode_k03_intervals_terms_and_rows
set_option Elab.async false
set_option linter.all false
set_option maxRecDepth 100000
set_option maxHeartbeats 4000000
/-! MA: plain data for values, what stands in the heap for them, and how a heap goes on. -/
namespace Mi
open PySem PySem.Spec PyProof.Rows L2

abbrev D := PyData
/-- a thing of the store by its number; a def by its number -/
abbrev dRef (n : Nat) : D := .dict [(.dict [], .int n)]
abbrev dFn (x : Nat) : D := .dict [(.none, .int x)]
/-- a list that is not of the call's making (the script) -/
abbrev dFar (xs : List D) : D := .dict [(.dict [], .list xs)]

/-- a container's shape: a list; a dict with int and text keys; a dict with tuple keys -/
inductive Sh where
  | l | k (ks : List L2.Key) | t (ks : List (List L2.Key))
/-- what a place holds: plain data; a container of its own -/
inductive GV where
  | d (x : D) | ob (s : Sh) (xs : List D)
abbrev GV.fl (xs : List D) : GV := .ob .l xs
/-- the container's object -/
def hob : Sh → List V → HO
  | .l, vs => .lst vs
  | .k ks, vs => .dK (ks.zip vs)
  | .t ks, vs => .dT (ks.zip vs)
def keyD : L2.Key → D
  | .inl i => .int i
  | .inr x => .str x
/-- dicts as data -/
def dDk (kvs : List (L2.Key × D)) : D := .dict ((.bool true, .none) :: kvs.map fun q => (keyD q.1, q.2))
def dDt (kvs : List (List L2.Key × D)) : D := .dict ((.bool false, .none) :: kvs.map fun q => (.tuple (q.1.map keyD), q.2))
def dOb : Sh → List D → D
  | .l, xs => .list xs
  | .k ks, xs => dDk (ks.zip xs)
  | .t ks, xs => dDt (ks.zip xs)

/-- what does not change in a run -/
structure Cn where
  K : PySem.W.Frag
  fa : Nat → Option Addr
  /-- the rows that may be a tuple of the written part -/
  kc : List D → Bool

/-- a thing of the store -/
inductive Ob where
  | ob (s : Sh) (xs : List D) | dead
abbrev Ob.lst (xs : List D) : Ob := .ob .l xs

mutual
/-- v stands for the data x, by what is locked -/
inductive Rp (C : Cn) (F : Hp) (m : List Addr) : V → D → Prop
  | non : Rp C F m .non .none
  | bl (b : Bool) : Rp C F m (.bl b) (.bool b)
  | int (i : Int) : Rp C F m (.int i) (.int i)
  | str (x : Str) : Rp C F m (.str x) (.str x)
  | tup {a : Addr} {vs : List V} {xs : List D} : SqT C.K F a vs → (F a = some (.tup vs) ∨ C.kc xs = true) → RpL C F m vs xs → Rp C F m (.ref a) (.tuple xs)
  | lst {a : Addr} {vs : List V} {xs : List D} : F a = some (.lst vs) → RpL C F m vs xs → Rp C F m (.ref a) (.list xs)
  | far {a : Addr} {vs : List V} {xs : List D} : SqL C.K F a vs → RpL C F m vs xs → Rp C F m (.ref a) (dFar xs)
  | ref {a : Addr} {n : Nat} : m[n]? = some a → Rp C F m (.ref a) (dRef n)
  | fn {a : Addr} {x : Nat} : C.fa x = some a → Rp C F m (.ref a) (dFn x)
  | dk {a : Addr} {ks : List L2.Key} {vs : List V} {xs : List D} : F a = some (.dK (ks.zip vs)) → RpL C F m vs xs → Rp C F m (.ref a) (.dict ((.bool true, .none) :: (ks.zip xs).map fun q => (keyD q.1, q.2)))
  | dt {a : Addr} {ks : List (List L2.Key)} {vs : List V} {xs : List D} : F a = some (.dT (ks.zip vs)) → RpL C F m vs xs → Rp C F m (.ref a) (.dict ((.bool false, .none) :: (ks.zip xs).map fun q => (.tuple (q.1.map keyD), q.2)))
inductive RpL (C : Cn) (F : Hp) (m : List Addr) : List V → List D → Prop
  | nil : RpL C F m [] []
  | cons {v : V} {x : D} {vs : List V} {xs : List D} : Rp C F m v x → RpL C F m vs xs → RpL C F m (v :: vs) (x :: xs)
end

def Sub (F F' : Hp) : Prop := ∀ a o, F a = some o → F' a = some o
theorem Sub.refl (F : Hp) : Sub F F := fun _ _ h => h
theorem Sub.trans {F G H : Hp} (a : Sub F G) (b : Sub G H) : Sub F H := fun x o h => b x o (a x o h)
theorem Sub.upd {F : Hp} {p : Addr} {o : HO} (h : F p = none) : Sub F (upd F p o) := fun a u e => by
  rw [upd_ne (ne_of_none e h)]; exact e
theorem Sub.sqT {K : PySem.W.Frag} {F F' : Hp} {a : Addr} {xs : List V} (e : Sub F F') (h : SqT K F a xs) : SqT K F' a xs := by
  rcases h with (h | ⟨o, h⟩) | h
  · exact .inl (.inl (e a _ h))
  · exact .inl (.inr ⟨o, e a _ h⟩)
  · exact .inr h
theorem Sub.sqL {K : PySem.W.Frag} {F F' : Hp} {a : Addr} {xs : List V} (e : Sub F F') (h : SqL K F a xs) : SqL K F' a xs := by
  rcases h with (h | ⟨o, h⟩) | h
  · exact .inl (.inl (e a _ h))
  · exact .inl (.inr ⟨o, e a _ h⟩)
  · exact .inr h
section
variable {C : Cn} {F F' : Hp} {m m' : List Addr}
def Pre (m m' : List Addr) : Prop := ∀ (n : Nat) (a : Addr), m[n]? = some a → m'[n]? = some a
theorem Pre.refl (m : List Addr) : Pre m m := fun _ _ h => h
theorem Pre.app (m l : List Addr) : Pre m (m ++ l) := fun n a h => by
  rw [List.getElem?_append_left (List.getElem?_eq_some_iff.mp h).1]; exact h
mutual
theorem Rp.mono (e : Sub F F') (p : Pre m m') : ∀ {v : V} {x : D}, Rp C F m v x → Rp C F' m' v x
  | _, _, .non => .non
  | _, _, .bl b => .bl b
  | _, _, .int i => .int i
  | _, _, .str x => .str x
  | _, _, .tup h k r => .tup (e.sqT h) (k.imp (e _ _) id) (RpL.mono e p r)
  | _, _, .lst h r => .lst (e _ _ h) (RpL.mono e p r)
  | _, _, .far h r => .far (e.sqL h) (RpL.mono e p r)
  | _, _, .ref h => .ref (p _ _ h)
  | _, _, .fn h => .fn h
  | _, _, .dk h r => .dk (e _ _ h) (RpL.mono e p r)
  | _, _, .dt h r => .dt (e _ _ h) (RpL.mono e p r)
theorem RpL.mono (e : Sub F F') (p : Pre m m') : ∀ {vs : List V} {xs : List D}, RpL C F m vs xs → RpL C F' m' vs xs
  | _, _, .nil => .nil
  | _, _, .cons h t => .cons (Rp.mono e p h) (RpL.mono e p t)
end
theorem RpL.len : ∀ {vs : List V} {xs : List D}, RpL C F m vs xs → vs.length = xs.length
  | _, _, .nil => rfl
  | _, _, .cons _ t => congrArg Nat.succ (RpL.len t)
theorem RpL.app : ∀ {vs us : List V} {xs ys : List D}, RpL C F m vs xs → RpL C F m us ys → RpL C F m (vs ++ us) (xs ++ ys)
  | _, _, _, _, .nil, h => h
  | _, _, _, _, .cons r t, h => .cons r (RpL.app t h)
theorem RpL.get : ∀ {vs : List V} {xs : List D} {i : Nat} {v : V}, RpL C F m vs xs → vs[i]? = some v → ∃ x, xs[i]? = some x ∧ Rp C F m v x
  | _, _, 0, _, .cons r _, e => by simp at e; subst e; exact ⟨_, rfl, r⟩
  | _, _, i + 1, _, .cons _ t, e => by
    obtain ⟨x, h1, h2⟩ := RpL.get (i := i) t (by simpa using e)
    exact ⟨x, by simpa using h1, h2⟩
theorem RpL.get' : ∀ {vs : List V} {xs : List D} {i : Nat} {x : D}, RpL C F m vs xs → xs[i]? = some x → ∃ v, vs[i]? = some v ∧ Rp C F m v x
  | _, _, 0, _, .cons r _, e => by simp at e; subst e; exact ⟨_, rfl, r⟩
  | _, _, i + 1, _, .cons _ t, e => by
    obtain ⟨v, h1, h2⟩ := RpL.get' (i := i) t (by simpa using e)
    exact ⟨v, by simpa using h1, h2⟩
end

/-! ### what is held -/
section
variable (C : Cn) (F : Hp) (m : List Addr) (H : Hp)
def Hd : V × GV → Prop
  | (v, .d x) => Rp C F m v x
  | (v, .ob s xs) => ∃ a vs, v = .ref a ∧ H a = some (hob s vs) ∧ F a = none ∧ RpL C F m vs xs
def ObOk (a : Addr) : Ob → Prop
  | .ob s xs => ∃ vs, H a = some (hob s vs) ∧ F a = none ∧ RpL C F m vs xs
  | .dead => ∃ o, H a = some o
end
def flA : V × GV → Option Addr
  | (.ref a, .ob _ _) => some a
  | _ => none
/-- the addresses that are one's own -/
def own (τ : List (V × GV)) : List Addr := τ.filterMap flA
structure Ok (C : Cn) (F : Hp) (m : List Addr) (S : List Ob) (τ : List (V × GV)) (H : Hp) : Prop where
  sub : Sub F H
  held : ∀ p ∈ τ, Hd C F m H p
  nd : (own τ ++ m).Nodup
  len : S.length = m.length
  st : ∀ (n : Nat) (o : Ob) (a : Addr), S[n]? = some o → m[n]? = some a → ObOk C F m H a o
/-- what is held, some way -/
def Sim (C : Cn) (S : List Ob) (τ : List (V × GV)) (H : Hp) : Prop := ∃ F m, Ok C F m S τ H

theorem own_app (τ τ' : List (V × GV)) : own (τ ++ τ') = own τ ++ own τ' := List.filterMap_append
theorem own_d (v : V) (x : D) (τ : List (V × GV)) : own ((v, .d x) :: τ) = own τ := by
  unfold own
  rw [List.filterMap_cons]
  have : flA (v, .d x) = none := by cases v <;> rfl
  rw [this]
theorem own_ob (a : Addr) (s : Sh) (xs : List D) (τ : List (V × GV)) : own ((.ref a, .ob s xs) :: τ) = a :: own τ := rfl
theorem own_fl (a : Addr) (xs : List D) (τ : List (V × GV)) : own ((.ref a, .fl xs) :: τ) = a :: own τ := rfl
theorem own_nil : own [] = [] := rfl
theorem own_zip : ∀ (vs : List V) (xs : List D), own (vs.zip (xs.map GV.d)) = []
  | [], _ => by simp [own]
  | _ :: _, [] => by simp [own]
  | v :: vs, x :: xs => by
    show own ((v, GV.d x) :: vs.zip (xs.map GV.d)) = []
    rw [own_d]; exact own_zip vs xs

section
variable {C : Cn} {F : Hp} {m : List Addr} {S : List Ob} {τ τ' : List (V × GV)} {H : Hp} {v : V} {a p : Addr}
theorem Hd.mono {F' : Hp} {m' : List Addr} {H' : Hp} (e : Sub F F') (pr : Pre m m') {q : V × GV} (h : Hd C F m H q) (hf : ∀ a o, flA q = some a → H a = some o → H' a = some o ∧ (F a = none → F' a = none)) : Hd C F' m' H' q := by
  obtain ⟨v, g⟩ := q
  cases g with
  | d x => exact Rp.mono e pr h
  | ob s xs =>
    obtain ⟨a, vs, rfl, h1, h2, h3⟩ := h
    obtain ⟨q1, q2⟩ := hf a _ rfl h1
    exact ⟨a, vs, rfl, q1, q2 h2, RpL.mono e pr h3⟩
theorem mem_own {q : V × GV} {a : Addr} (h : q ∈ τ) (e : flA q = some a) : a ∈ own τ := List.mem_filterMap.mpr ⟨q, h, e⟩
theorem of_own {a : Addr} (h : a ∈ own τ) : ∃ s xs, (V.ref a, GV.ob s xs) ∈ τ := by
  obtain ⟨⟨v, g⟩, h1, h2⟩ := List.mem_filterMap.mp h
  cases g with
  | d x => cases v <;> cases h2
  | ob s xs =>
    cases v <;> cases h2
    exact ⟨s, xs, h1⟩
/-- other entries, none of one's own twice -/
theorem Ok.re (h : Ok C F m S τ H) (hm : ∀ q ∈ τ', q ∈ τ) (hc : ∀ a, (own τ').count a ≤ (own τ).count a) : Ok C F m S τ' H := by
  refine ⟨h.sub, fun q hq => h.held q (hm q hq), ?_, h.len, h.st⟩
  rw [List.nodup_iff_count]
  intro a
  have := List.nodup_iff_count.mp h.nd a
  rw [List.count_append] at this ⊢
  have := hc a
  omega
theorem Sim.re (h : Sim C S τ H) (hm : ∀ q ∈ τ', q ∈ τ) (hc : ∀ a, (own τ').count a ≤ (own τ).count a) : Sim C S τ' H := by
  obtain ⟨F, m, h⟩ := h
  exact ⟨F, m, h.re hm hc⟩
theorem Sim.perm (h : Sim C S τ H) (p : τ'.Perm τ) : Sim C S τ' H :=
  h.re (fun q hq => p.mem_iff.mp hq) fun a => by show List.count a (List.filterMap flA τ') ≤ _; rw [(p.filterMap flA).count_eq a]; exact Nat.le_refl _
theorem Sim.tail {q : V × GV} (h : Sim C S (q :: τ) H) : Sim C S τ H := h.re (fun x hx => List.mem_cons_of_mem _ hx) fun a => by
  unfold own
  rw [List.filterMap_cons]
  split
  · exact Nat.le_refl _
  · rw [List.count_cons]; omega
theorem Sim.right (h : Sim C S (τ ++ τ') H) : Sim C S τ' H := h.re (fun x hx => List.mem_append_right _ hx) fun a => by
  rw [own_app, List.count_append]; omega
theorem Sim.left (h : Sim C S (τ ++ τ') H) : Sim C S τ H := h.re (fun x hx => List.mem_append_left _ hx) fun a => by
  rw [own_app, List.count_append]; omega
/-- data may be held twice -/
theorem Sim.dup {x : D} (h : Sim C S τ H) (hm : (v, GV.d x) ∈ τ) : Sim C S ((v, .d x) :: τ) H := h.re (fun q hq => by
  rcases List.mem_cons.mp hq with rfl | hq
  · exact hm
  · exact hq) fun a => by rw [own_d]; exact Nat.le_refl _
theorem Ok.add {x : D} (h : Ok C F m S τ H) (r : Rp C F m v x) : Ok C F m S ((v, .d x) :: τ) H := by
  refine ⟨h.sub, fun q hq => ?_, by rw [own_d]; exact h.nd, h.len, h.st⟩
  rcases List.mem_cons.mp hq with rfl | hq
  · exact r
  · exact h.held q hq
theorem Ok.adds (h : Ok C F m S τ H) : ∀ {vs : List V} {xs : List D}, RpL C F m vs xs → Ok C F m S (vs.zip (xs.map GV.d) ++ τ) H
  | _, _, .nil => h
  | _, _, .cons r t => (h.adds t).add r
theorem Sim.add {x : D} (h : Sim C S τ H) (r : ∀ F m, Sub F H → Rp C F m v x) : Sim C S ((v, .d x) :: τ) H := by
  obtain ⟨F, m, h⟩ := h
  exact ⟨F, m, h.add (r F m h.sub)⟩
theorem Sim.non (h : Sim C S τ H) : Sim C S ((.non, .d .none) :: τ) H := h.add fun _ _ _ => .non
theorem Sim.bl (h : Sim C S τ H) (b : Bool) : Sim C S ((.bl b, .d (.bool b)) :: τ) H := h.add fun _ _ _ => .bl b
theorem Sim.int (h : Sim C S τ H) (i : Int) : Sim C S ((.int i, .d (.int i)) :: τ) H := h.add fun _ _ _ => .int i
theorem Sim.str (h : Sim C S τ H) (x : Str) : Sim C S ((.str x, .d (.str x)) :: τ) H := h.add fun _ _ _ => .str x
theorem Sim.fn (h : Sim C S τ H) {x : Nat} (e : C.fa x = some a) : Sim C S ((.ref a, .d (dFn x)) :: τ) H := h.add fun _ _ _ => .fn e
/-- a constant of the written part -/
theorem Sim.const {x : D} (h : Sim C S τ H) (r : Rp C (fun _ => none) [] v x) : Sim C S ((v, .d x) :: τ) H :=
  h.add fun F m _ => r.mono (fun _ _ e => by cases e) (fun _ _ e => by cases e)
/-- the place's data, by its value -/
theorem Ok.get {x : D} (h : Ok C F m S τ H) (hm : (v, GV.d x) ∈ τ) : Rp C F m v x := h.held _ hm
theorem Sim.none_inv (h : Sim C S ((v, .d .none) :: τ) H) : v = .non := by
  obtain ⟨F, m, h⟩ := h
  have := h.get (List.mem_cons_self ..)
  cases this; rfl
theorem Sim.int_inv {i : Int} (h : Sim C S ((v, .d (.int i)) :: τ) H) : v = .int i := by
  obtain ⟨F, m, h⟩ := h
  have := h.get (List.mem_cons_self ..)
  cases this; rfl
theorem Sim.bl_inv {i : Bool} (h : Sim C S ((v, .d (.bool i)) :: τ) H) : v = .bl i := by
  obtain ⟨F, m, h⟩ := h
  have := h.get (List.mem_cons_self ..)
  cases this; rfl
theorem Sim.str_inv {i : Str} (h : Sim C S ((v, .d (.str i)) :: τ) H) : v = .str i := by
  obtain ⟨F, m, h⟩ := h
  have := h.get (List.mem_cons_self ..)
  cases this; rfl
theorem Sim.tup_inv {xs : List D} (h : Sim C S ((v, .d (.tuple xs)) :: τ) H) : ∃ a vs, v = .ref a ∧ SqT C.K H a vs ∧ vs.length = xs.length ∧ Sim C S (vs.zip (xs.map GV.d) ++ (v, .d (.tuple xs)) :: τ) H := by
  obtain ⟨F, m, h⟩ := h
  have r := h.get (List.mem_cons_self ..)
  cases r with
  | tup s _ r => exact ⟨_, _, rfl, h.sub.sqT s, r.len, F, m, h.adds r⟩
theorem Sim.lst_inv {xs : List D} (h : Sim C S ((v, .d (.list xs)) :: τ) H) : ∃ a vs, v = .ref a ∧ H a = some (.lst vs) ∧ vs.length = xs.length ∧ Sim C S (vs.zip (xs.map GV.d) ++ (v, .d (.list xs)) :: τ) H := by
  obtain ⟨F, m, h⟩ := h
  have r := h.get (List.mem_cons_self ..)
  cases r with
  | lst s r => exact ⟨_, _, rfl, h.sub _ _ s, r.len, F, m, h.adds r⟩
theorem Sim.fn_inv {x : Nat} (h : Sim C S ((v, .d (dFn x)) :: τ) H) : ∃ a, v = .ref a ∧ C.fa x = some a := by
  obtain ⟨F, m, h⟩ := h
  have r := h.get (List.mem_cons_self ..)
  generalize hx : dFn x = d at r
  cases r with
  | @fn a' x' s =>
    have z : x = x' := by simp at hx; exact Int.ofNat.inj hx
    subst z
    exact ⟨_, rfl, s⟩
  | _ => cases hx
theorem Sim.fl_inv {xs : List D} (h : Sim C S ((v, .fl xs) :: τ) H) : ∃ a vs, v = .ref a ∧ H a = some (.lst vs) ∧ vs.length = xs.length ∧ Sim C S (vs.zip (xs.map GV.d) ++ (v, .fl xs) :: τ) H := by
  obtain ⟨F, m, h⟩ := h
  obtain ⟨a, vs, rfl, h1, h2, h3⟩ := h.held _ (List.mem_cons_self ..)
  exact ⟨a, vs, rfl, h1, h3.len, F, m, h.adds h3⟩
theorem Sim.ref_inv {n : Nat} {xs : List D} (h : Sim C S ((v, .d (dRef n)) :: τ) H) (hn : S[n]? = some (.lst xs)) : ∃ a vs, v = .ref a ∧ H a = some (.lst vs) ∧ vs.length = xs.length ∧ Sim C S (vs.zip (xs.map GV.d) ++ (v, .d (dRef n)) :: τ) H := by
  obtain ⟨F, m, h⟩ := h
  have r := h.get (List.mem_cons_self ..)
  cases r with
  | ref s =>
    obtain ⟨vs, h1, h2, h3⟩ := h.st n _ _ hn s
    exact ⟨_, vs, rfl, h1, h3.len, F, m, h.adds h3⟩
/-- zipped data of a row: each place -/
theorem zip_mem : ∀ {vs : List V} {xs : List D} {i : Nat} {v : V} {x : D}, vs[i]? = some v → xs[i]? = some x → (v, GV.d x) ∈ vs.zip (xs.map GV.d)
  | [], _, _, _, _, h, _ => by simp at h
  | _ :: _, [], _, _, _, _, h => by simp at h
  | v :: vs, x :: xs, 0, _, _, h, h' => by simp at h h'; subst h; subst h'; exact List.mem_cons_self ..
  | v :: vs, x :: xs, i + 1, _, _, h, h' => List.mem_cons_of_mem _ (zip_mem (i := i) (by simpa using h) (by simpa using h'))
theorem Ok.rows (h : Ok C F m S τ H) : ∀ {vs : List V} {xs : List D}, vs.length = xs.length → (∀ q ∈ vs.zip (xs.map GV.d), q ∈ τ) → RpL C F m vs xs
  | [], [], _, _ => .nil
  | [], _ :: _, e, _ => by simp at e
  | _ :: _, [], e, _ => by simp at e
  | v :: vs, x :: xs, e, hm => .cons (h.held (v, .d x) (hm _ (List.mem_cons_self ..))) (h.rows (by simpa using e) fun q hq => hm q (List.mem_cons_of_mem _ hq))

theorem Ok.tracked_own (h : Ok C F m S τ H) (ha : a ∈ own τ) : ∃ o, H a = some o ∧ F a = none := by
  obtain ⟨s, xs, hq⟩ := of_own ha
  obtain ⟨b, vs, e, h1, h2, _⟩ := h.held _ hq
  cases e
  exact ⟨_, h1, h2⟩
theorem Ok.tracked_st (h : Ok C F m S τ H) (ha : a ∈ m) : ∃ o, H a = some o := by
  obtain ⟨n, hn, e⟩ := List.getElem_of_mem ha
  have hs : n < S.length := by rw [h.len]; exact hn
  have := h.st n S[n] a (List.getElem?_eq_getElem hs) (by rw [List.getElem?_eq_getElem hn, e])
  cases q : S[n] with
  | ob s xs => rw [q] at this; obtain ⟨vs, h1, _⟩ := this; exact ⟨_, h1⟩
  | dead => rw [q] at this; exact this
/-- a new object is laid: known and locked as o -/
theorem Ok.lay {o : HO} (h : Ok C F m S τ H) (hp : H p = none) : Ok C (upd F p o) m S τ (upd H p o) := by
  have fp : F p = none := by
    cases e : F p with
    | none => rfl
    | some u => rw [h.sub p u e] at hp; cases hp
  have sF : Sub F (upd F p o) := Sub.upd fp
  refine ⟨fun a u e => ?_, fun q hq => ?_, h.nd, h.len, fun n ob a e1 e2 => ?_⟩
  · by_cases z : a = p
    · subst z; rw [upd_same] at e ⊢; exact e
    · rw [upd_ne z] at e ⊢; exact h.sub a u e
  · refine (h.held q hq).mono sF (Pre.refl m) fun a vs e1 e2 => ?_
    have z : a ≠ p := ne_of_none e2 hp
    rw [upd_ne z, upd_ne z]
    exact ⟨e2, id⟩
  · have ho := h.st n ob a e1 e2
    cases ob with
    | ob s xs =>
      obtain ⟨vs, h1, h2, h3⟩ := ho
      have z : a ≠ p := ne_of_none h1 hp
      exact ⟨vs, by rw [upd_ne z]; exact h1, by rw [upd_ne z]; exact h2, h3.mono sF (Pre.refl m)⟩
    | dead =>
      obtain ⟨o', h1⟩ := ho
      have z : a ≠ p := ne_of_none h1 hp
      exact ⟨o', by rw [upd_ne z]; exact h1⟩
/-- a new tuple of what is held -/
theorem Sim.newTup {vs : List V} {xs : List D} (h : Sim C S (vs.zip (xs.map GV.d) ++ τ) H) (hl : vs.length = xs.length) (hp : H p = none) : Sim C S ((.ref p, .d (.tuple xs)) :: τ) (upd H p (.tup vs)) := by
  obtain ⟨F, m, h⟩ := h
  have r := h.rows hl fun q hq => List.mem_append_left _ hq
  have h' := h.lay (o := .tup vs) hp
  have fp : F p = none := by
    cases e : F p with
    | none => rfl
    | some u => rw [h.sub p u e] at hp; cases hp
  have h2 := h'.add (.tup (.inl (.inl upd_same)) (.inl upd_same) (r.mono (Sub.upd fp) (Pre.refl m)))
  exact ⟨_, m, h2.re (fun q hq => by
    rcases List.mem_cons.mp hq with rfl | hq
    · exact List.mem_cons_self ..
    · exact List.mem_cons_of_mem _ (List.mem_append_right _ hq)) fun a => by rw [own_d, own_d, own_app, own_zip]; exact Nat.le_refl _⟩
/-- .. a tuple of any values is laid, that nobody holds -/
theorem Ok.junk {o : HO} (h : Ok C F m S τ H) (hp : H p = none) : Ok C F m S τ (upd H p o) := by
  refine ⟨h.sub.trans (Sub.upd hp), fun q hq => ?_, h.nd, h.len, fun n ob a e1 e2 => ?_⟩
  · refine (h.held q hq).mono (Sub.refl F) (Pre.refl m) fun a vs e1 e2 => ?_
    rw [upd_ne (ne_of_none e2 hp)]
    exact ⟨e2, id⟩
  · have ho := h.st n ob a e1 e2
    cases ob with
    | ob s xs =>
      obtain ⟨vs, h1, h2, h3⟩ := ho
      exact ⟨vs, by rw [upd_ne (ne_of_none h1 hp)]; exact h1, h2, h3⟩
    | dead =>
      obtain ⟨o', h1⟩ := ho
      exact ⟨o', by rw [upd_ne (ne_of_none h1 hp)]; exact h1⟩
theorem Sim.junk {o : HO} (h : Sim C S τ H) (hp : H p = none) : Sim C S τ (upd H p o) := by
  obtain ⟨F, m, h⟩ := h
  exact ⟨F, m, h.junk hp⟩
/-- a new container, one's own -/
theorem Sim.newOb {s : Sh} {vs : List V} {xs : List D} (h : Sim C S (vs.zip (xs.map GV.d) ++ τ) H) (hl : vs.length = xs.length) (hp : H p = none) : Sim C S ((.ref p, .ob s xs) :: τ) (upd H p (hob s vs)) := by
  obtain ⟨F, m, h⟩ := h
  have r := h.rows hl fun q hq => List.mem_append_left _ hq
  have h' := h.junk (o := hob s vs) hp
  have fp : F p = none := by
    cases e : F p with
    | none => rfl
    | some u => rw [h.sub p u e] at hp; cases hp
  have n1 : p ∉ own τ := fun z => by
    have z' : p ∈ own (vs.zip (xs.map GV.d) ++ τ) := by rw [own_app]; exact List.mem_append_right _ z
    obtain ⟨_, e, _⟩ := h.tracked_own z'
    rw [hp] at e; cases e
  have n2 : p ∉ m := fun z => by
    obtain ⟨_, e⟩ := h.tracked_st z
    rw [hp] at e; cases e
  refine ⟨F, m, h'.sub, fun q hq => ?_, ?_, h'.len, h'.st⟩
  · rcases List.mem_cons.mp hq with rfl | hq
    · exact ⟨p, vs, rfl, upd_same, fp, r⟩
    · exact h'.held q (List.mem_append_right _ hq)
  · rw [own_ob, List.cons_append, List.nodup_cons]
    have := h.nd
    rw [own_app, own_zip, List.nil_append] at this
    exact ⟨fun z => (List.mem_append.mp z).elim n1 n2, this⟩
theorem Sim.newLst {vs : List V} {xs : List D} (h : Sim C S (vs.zip (xs.map GV.d) ++ τ) H) (hl : vs.length = xs.length) (hp : H p = none) : Sim C S ((.ref p, .fl xs) :: τ) (upd H p (.lst vs)) := Sim.newOb (s := .l) h hl hp
theorem Rp.dob {s : Sh} {vs : List V} {xs : List D} (e : F a = some (hob s vs)) (r : RpL C F m vs xs) : Rp C F m (.ref a) (dOb s xs) := by
  cases s with
  | l => exact .lst e r
  | k ks => exact .dk e r
  | t ks => exact .dt e r
/-- an own list is locked -/
theorem Sim.lockOb {s : Sh} {xs : List D} (h : Sim C S ((v, .ob s xs) :: τ) H) : Sim C S ((v, .d (dOb s xs)) :: τ) H := by
  obtain ⟨F, m, h⟩ := h
  obtain ⟨a, vs, rfl, h1, h2, h3⟩ := h.held _ (List.mem_cons_self ..)
  have sF : Sub F (upd F a (hob s vs)) := Sub.upd h2
  have nd := h.nd
  rw [own_ob, List.cons_append, List.nodup_cons] at nd
  refine ⟨upd F a (hob s vs), m, fun b u e => ?_, fun q hq => ?_, by rw [own_d]; exact nd.2, h.len, fun n ob b e1 e2 => ?_⟩
  · by_cases z : b = a
    · subst z; rw [upd_same] at e; rw [h1]; exact e
    · rw [upd_ne z] at e; exact h.sub b u e
  · rcases List.mem_cons.mp hq with rfl | hq'
    · exact Rp.dob upd_same (h3.mono sF (Pre.refl m))
    · refine (h.held q (List.mem_cons_of_mem _ hq')).mono sF (Pre.refl m) fun b us e1 e2 => ?_
      have z : b ≠ a := fun z => by
        subst z
        exact nd.1 (List.mem_append_left _ (mem_own hq' e1))
      rw [upd_ne z]
      exact ⟨e2, id⟩
  · have z : b ≠ a := fun z => by
      subst z
      exact nd.1 (List.mem_append_right _ (List.mem_of_getElem? e2))
    have ho := h.st n ob b e1 e2
    cases ob with
    | ob s ys =>
      obtain ⟨us, k1, k2, k3⟩ := ho
      exact ⟨us, k1, by rw [upd_ne z]; exact k2, k3.mono sF (Pre.refl m)⟩
    | dead => exact ho
theorem Sim.lock {xs : List D} (h : Sim C S ((v, .fl xs) :: τ) H) : Sim C S ((v, .d (.list xs)) :: τ) H := h.lockOb
/-- an own list is written -/
theorem Sim.setOwnOb {s s' : Sh} {xs xs' : List D} {vs' : List V} (h : Sim C S ((.ref a, .ob s xs) :: (vs'.zip (xs'.map GV.d) ++ τ)) H) (hl : vs'.length = xs'.length) : Sim C S ((.ref a, .ob s' xs') :: τ) (upd H a (hob s' vs')) := by
  obtain ⟨F, m, h⟩ := h
  obtain ⟨a', vs, e, h1, h2, h3⟩ := h.held _ (List.mem_cons_self ..)
  cases e
  have r := h.rows hl fun q hq => List.mem_cons_of_mem _ (List.mem_append_left _ hq)
  have nd := h.nd
  rw [own_ob, own_app, own_zip, List.nil_append, List.cons_append, List.nodup_cons] at nd
  refine ⟨F, m, fun b u e => ?_, fun q hq => ?_, by rw [own_ob, List.cons_append, List.nodup_cons]; exact nd, h.len, fun n ob b e1 e2 => ?_⟩
  · rw [upd_ne (ne_of_none e h2)]; exact h.sub b u e
  · rcases List.mem_cons.mp hq with rfl | hq'
    · exact ⟨a, vs', rfl, upd_same, h2, r⟩
    · refine (h.held q (List.mem_cons_of_mem _ (List.mem_append_right _ hq'))).mono (Sub.refl F) (Pre.refl m) fun b us e1 e2 => ?_
      have z : b ≠ a := fun z => by
        subst z
        exact nd.1 (List.mem_append_left _ (mem_own hq' e1))
      rw [upd_ne z]
      exact ⟨e2, id⟩
  · have z : b ≠ a := fun z => by
      subst z
      exact nd.1 (List.mem_append_right _ (List.mem_of_getElem? e2))
    have ho := h.st n ob b e1 e2
    cases ob with
    | ob s ys =>
      obtain ⟨us, k1, k2, k3⟩ := ho
      exact ⟨us, by rw [upd_ne z]; exact k1, k2, k3⟩
    | dead =>
      obtain ⟨o', k⟩ := ho
      exact ⟨o', by rw [upd_ne z]; exact k⟩
theorem Sim.setOwn {xs xs' : List D} {vs' : List V} (h : Sim C S ((.ref a, .fl xs) :: (vs'.zip (xs'.map GV.d) ++ τ)) H) (hl : vs'.length = xs'.length) : Sim C S ((.ref a, .fl xs') :: τ) (upd H a (.lst vs')) := Sim.setOwnOb (s' := .l) h hl
/-- a thing of the store is written -/
theorem Sim.setStOb {n : Nat} {s s' : Sh} {xs xs' : List D} {vs' : List V} (h : Sim C S ((.ref a, .d (dRef n)) :: (vs'.zip (xs'.map GV.d) ++ τ)) H) (hn : S[n]? = some (.ob s xs)) (hl : vs'.length = xs'.length) :
    Sim C (S.set n (.ob s' xs')) τ (upd H a (hob s' vs')) := by
  obtain ⟨F, m, h⟩ := h
  have r0 := h.held _ (List.mem_cons_self ..)
  have hmn : m[n]? = some a := by
    cases r0 with
    | ref s => exact s
  obtain ⟨vs, h1, h2, h3⟩ := h.st n _ _ hn hmn
  have r := h.rows hl fun q hq => List.mem_cons_of_mem _ (List.mem_append_left _ hq)
  have nd := h.nd
  rw [own_d, own_app, own_zip, List.nil_append] at nd
  have am : a ∈ m := List.mem_of_getElem? hmn
  have nd' := List.nodup_append.mp nd
  refine ⟨F, m, fun b u e => ?_, fun q hq => ?_, nd, by rw [List.length_set]; exact h.len, fun k ob b e1 e2 => ?_⟩
  · rw [upd_ne (ne_of_none e h2)]; exact h.sub b u e
  · refine (h.held q (List.mem_cons_of_mem _ (List.mem_append_right _ hq))).mono (Sub.refl F) (Pre.refl m) fun b us e1 e2 => ?_
    have z : b ≠ a := nd'.2.2 b (mem_own hq e1) a am
    rw [upd_ne z]
    exact ⟨e2, id⟩
  · by_cases z : k = n
    · subst z
      rw [hmn] at e2; cases e2
      have hk : k < S.length := (List.getElem?_eq_some_iff.mp hn).1
      rw [List.getElem?_set_self hk] at e1; cases e1
      exact ⟨vs', upd_same, h2, r⟩
    · rw [List.getElem?_set_ne (Ne.symm z)] at e1
      have zb : b ≠ a := fun zb => by
        subst zb
        obtain ⟨i1, q1⟩ := List.getElem?_eq_some_iff.mp e2
        obtain ⟨i2, q2⟩ := List.getElem?_eq_some_iff.mp hmn
        exact z ((List.getElem_inj nd'.2.1).mp (q1.trans q2.symm))
      have ho := h.st k ob b e1 e2
      cases ob with
      | ob s ys =>
        obtain ⟨us, k1, k2, k3⟩ := ho
        exact ⟨us, by rw [upd_ne zb]; exact k1, k2, k3⟩
      | dead =>
        obtain ⟨o', k⟩ := ho
        exact ⟨o', by rw [upd_ne zb]; exact k⟩
theorem Sim.setSt {n : Nat} {xs xs' : List D} {vs' : List V} (h : Sim C S ((.ref a, .d (dRef n)) :: (vs'.zip (xs'.map GV.d) ++ τ)) H) (hn : S[n]? = some (.lst xs)) (hl : vs'.length = xs'.length) :
    Sim C (S.set n (.lst xs')) τ (upd H a (.lst vs')) := Sim.setStOb (s' := .l) h hn hl
/-- an own list goes into the store -/
theorem Sim.shareOb {s : Sh} {xs : List D} (h : Sim C S ((v, .ob s xs) :: τ) H) : Sim C (S ++ [.ob s xs]) ((v, .d (dRef S.length)) :: τ) H := by
  obtain ⟨F, m, h⟩ := h
  obtain ⟨a, vs, rfl, h1, h2, h3⟩ := h.held _ (List.mem_cons_self ..)
  have nd := h.nd
  rw [own_ob, List.cons_append, List.nodup_cons] at nd
  have pr := Pre.app m [a]
  have ha : (m ++ [a])[S.length]? = some a := by rw [h.len, List.getElem?_append_right (Nat.le_refl _)]; simp
  refine ⟨F, m ++ [a], h.sub, fun q hq => ?_, ?_, by simp [h.len], fun n ob b e1 e2 => ?_⟩
  · rcases List.mem_cons.mp hq with rfl | hq
    · exact .ref ha
    · exact (h.held q (List.mem_cons_of_mem _ hq)).mono (Sub.refl F) pr fun b us e1 e2 => ⟨e2, id⟩
  · rw [own_d, ← List.append_assoc]
    exact List.nodup_append.mpr ⟨nd.2, by simp, fun x hx y hy => by
      have : y = a := by simpa using hy
      subst this
      exact fun z => nd.1 (z ▸ hx)⟩
  · by_cases z : n < S.length
    · rw [List.getElem?_append_left z] at e1
      rw [List.getElem?_append_left (by rw [← h.len]; exact z)] at e2
      have ho := h.st n ob b e1 e2
      cases ob with
      | ob s ys =>
        obtain ⟨us, k1, k2, k3⟩ := ho
        exact ⟨us, k1, k2, k3.mono (Sub.refl F) pr⟩
      | dead => exact ho
    · have zn : n = S.length := by
        have := (List.getElem?_eq_some_iff.mp e1).1
        rw [List.length_append] at this
        simp at this
        omega
      subst zn
      rw [ha] at e2; cases e2
      rw [List.getElem?_append_right (Nat.le_refl _)] at e1
      simp at e1
      subst e1
      exact ⟨vs, h1, h2, h3.mono (Sub.refl F) pr⟩
theorem Sim.share {xs : List D} (h : Sim C S ((v, .fl xs) :: τ) H) : Sim C (S ++ [.lst xs]) ((v, .d (dRef S.length)) :: τ) H := h.shareOb
/-- any of one's own containers: its object, its items held -/
theorem Sim.ob_inv {s : Sh} {xs : List D} (h : Sim C S ((v, .ob s xs) :: τ) H) : ∃ a vs, v = .ref a ∧ H a = some (hob s vs) ∧ vs.length = xs.length ∧ Sim C S (vs.zip (xs.map GV.d) ++ (v, .ob s xs) :: τ) H := by
  obtain ⟨F, m, h⟩ := h
  obtain ⟨a, vs, rfl, h1, h2, h3⟩ := h.held _ (List.mem_cons_self ..)
  exact ⟨a, vs, rfl, h1, h3.len, F, m, h.adds h3⟩
theorem Sim.refOb_inv {n : Nat} {s : Sh} {xs : List D} (h : Sim C S ((v, .d (dRef n)) :: τ) H) (hn : S[n]? = some (.ob s xs)) : ∃ a vs, v = .ref a ∧ H a = some (hob s vs) ∧ vs.length = xs.length ∧ Sim C S (vs.zip (xs.map GV.d) ++ (v, .d (dRef n)) :: τ) H := by
  obtain ⟨F, m, h⟩ := h
  have r := h.get (List.mem_cons_self ..)
  cases r with
  | ref s =>
    obtain ⟨vs, h1, h2, h3⟩ := h.st n _ _ hn s
    exact ⟨_, vs, rfl, h1, h3.len, F, m, h.adds h3⟩
end
end Mi

set_option Elab.async false
set_option linter.all false
set_option maxRecDepth 100000
set_option maxHeartbeats 4000000
/-! MB: what an expression, a test, a row of arguments reckons over plain data, and that the model does the same. -/
namespace Mi
open PySem PySem.Spec PyProof.Rows L2

structure T where
  ρ : List (Option GV)
  S : List Ob
/-- an outcome: a value; an error of a class with its arguments; no word -/
inductive R (α : Type) where
  | ok (a : α) (t : T) | exc (x : Str) (xs : List D) (t : T) | bad
def R.bind {α β : Type} (r : R α) (k : α → T → R β) : R β := match r with
  | .ok a t => k a t
  | .exc x xs t => .exc x xs t
  | .bad => .bad
def R.post {α : Type} (r : R α) (k : α → T → Prop) : Prop := match r with
  | .ok a t => k a t
  | .exc _ _ _ => False
  | .bad => False
theorem R.post_bind {α β : Type} {r : R α} {f : α → T → R β} {k : β → T → Prop} : (r.bind f).post k ↔ r.post fun a t => (f a t).post k := by
  cases r <;> rfl
theorem R.post_imp {α : Type} {r : R α} {k k' : α → T → Prop} (h : r.post k) (i : ∀ a t, k a t → k' a t) : r.post k' := by
  cases r with
  | ok a t => exact i a t h
  | exc => exact h
  | bad => exact h
@[simp] theorem R.bind_ok {α β : Type} (a : α) (t : T) (k : α → T → R β) : (R.ok a t).bind k = k a t := rfl
@[simp] theorem R.post_ok {α : Type} (a : α) (t : T) (k : α → T → Prop) : (R.ok a t).post k = k a t := rfl
abbrev M (α : Type) := T → R α
def toD : GV → D
  | .d x => x
  | .ob s xs => dOb s xs
@[simp] theorem toD_d (x : D) : toD (.d x) = x := rfl
@[simp] theorem toD_fl (xs : List D) : toD (.fl xs) = .list xs := rfl
/-- no value -/
def bad {α : Type} : M α := fun _ => .bad

/-- the slots -/
inductive Slots : L2.St → List (Option GV) → List (V × GV) → Prop
  | nil : Slots [] [] []
  | no {o : Option V} {σ : L2.St} {ρ : List (Option GV)} {τ : List (V × GV)} : Slots σ ρ τ → Slots (o :: σ) (none :: ρ) τ
  | yes {v : V} {g : GV} {σ : L2.St} {ρ : List (Option GV)} {τ : List (V × GV)} : Slots σ ρ τ → Slots (some v :: σ) (some g :: ρ) ((v, g) :: τ)
theorem Slots.len {σ : L2.St} {ρ : List (Option GV)} {τ : List (V × GV)} (h : Slots σ ρ τ) : σ.length = ρ.length := by
  induction h with
  | nil => rfl
  | no _ ih => simp [ih]
  | yes _ ih => simp [ih]
theorem Slots.get {g : GV} : ∀ {i : Nat} {σ : L2.St} {ρ : List (Option GV)} {τ : List (V × GV)}, Slots σ ρ τ → ρ[i]? = some (some g) → ∃ v, σ[i]? = some (some v) ∧ (v, g) ∈ τ
  | _, _, _, _, .nil, e => by simp at e
  | 0, _, _, _, .no h, e => by simp at e
  | 0, _, _, _, .yes h, e => by
    simp at e; subst e
    exact ⟨_, rfl, List.mem_cons_self ..⟩
  | i + 1, _, _, _, .no h, e => by
    obtain ⟨v, h1, h2⟩ := Slots.get (g := g) (i := i) h (by simpa using e)
    exact ⟨v, by simpa using h1, h2⟩
  | i + 1, _, _, _, .yes h, e => by
    obtain ⟨v, h1, h2⟩ := Slots.get (g := g) (i := i) h (by simpa using e)
    exact ⟨v, by simpa using h1, List.mem_cons_of_mem _ h2⟩
/-- a slot's entry taken out, another one put in -/
theorem Slots.out {g : GV} : ∀ {i : Nat} {σ : L2.St} {ρ : List (Option GV)} {τ : List (V × GV)}, Slots σ ρ τ → ρ[i]? = some (some g) →
    ∃ v τ0, σ[i]? = some (some v) ∧ τ.Perm ((v, g) :: τ0) ∧ Slots σ (ρ.set i none) τ0 ∧ ∀ v' g', ∃ τ', τ'.Perm ((v', g') :: τ0) ∧ Slots (σ.set i (some v')) (ρ.set i (some g')) τ'
  | _, _, _, _, .nil, e => by simp at e
  | 0, _, _, _, .no h, e => by simp at e
  | 0, _, _, _, .yes (v := v) (τ := τ) h, e => by
    simp at e; subst e
    exact ⟨v, τ, rfl, List.Perm.refl _, .no h, fun v' g' => ⟨_, List.Perm.refl _, .yes h⟩⟩
  | i + 1, _, _, _, .no h, e => by
    obtain ⟨v, τ0, h1, h2, h3, h4⟩ := Slots.out (g := g) (i := i) h (by simpa using e)
    exact ⟨v, τ0, by simpa using h1, h2, .no h3, fun v' g' => by
      obtain ⟨τ', q1, q2⟩ := h4 v' g'
      exact ⟨τ', q1, .no q2⟩⟩
  | i + 1, _, _, _, .yes (v := u) (g := gu) h, e => by
    obtain ⟨v, τ0, h1, h2, h3, h4⟩ := Slots.out (g := g) (i := i) h (by simpa using e)
    refine ⟨v, (u, gu) :: τ0, by simpa using h1, (h2.cons (u, gu)).trans (List.Perm.swap ..), .yes h3, fun v' g' => ?_⟩
    obtain ⟨τ', q1, q2⟩ := h4 v' g'
    exact ⟨(u, gu) :: τ', (q1.cons (u, gu)).trans (List.Perm.swap ..), .yes q2⟩
/-- any slot set -/
theorem Slots.put {g : GV} {v : V} : ∀ {i : Nat} {σ : L2.St} {ρ : List (Option GV)} {τ : List (V × GV)}, Slots σ ρ τ → i < ρ.length →
    ∃ τ0 τ', (∃ τd, τ.Perm (τd ++ τ0)) ∧ τ'.Perm ((v, g) :: τ0) ∧ Slots (σ.set i (some v)) (ρ.set i (some g)) τ'
  | _, _, _, _, .nil, e => by simp at e
  | 0, _, _, _, .no (τ := τ) h, e => ⟨τ, _, ⟨[], List.Perm.refl _⟩, List.Perm.refl _, .yes h⟩
  | 0, _, _, _, .yes (v := u) (g := gu) (τ := τ) h, e => ⟨τ, _, ⟨[(u, gu)], List.Perm.refl _⟩, List.Perm.refl _, .yes h⟩
  | i + 1, _, _, _, .no h, e => by
    obtain ⟨τ0, τ', h1, h2, h3⟩ := Slots.put (g := g) (v := v) (i := i) h (by simpa using e)
    exact ⟨τ0, τ', h1, h2, .no h3⟩
  | i + 1, _, _, _, .yes (v := u) (g := gu) h, e => by
    obtain ⟨τ0, τ', ⟨τd, h1⟩, h2, h3⟩ := Slots.put (g := g) (v := v) (i := i) h (by simpa using e)
    refine ⟨(u, gu) :: τ0, (u, gu) :: τ', ⟨τd, (h1.cons (u, gu)).trans ?_⟩, (h2.cons (u, gu)).trans (List.Perm.swap ..), .yes h3⟩
    exact (List.perm_middle (l₁ := τd) (l₂ := τ0) (a := (u, gu))).symm
/-- a slot forgotten -/
theorem Slots.forget : ∀ {i : Nat} {σ : L2.St} {ρ : List (Option GV)} {τ : List (V × GV)}, Slots σ ρ τ → ∃ τ0 τd, τ.Perm (τd ++ τ0) ∧ ∀ o, Slots (σ.set i o) (ρ.set i none) τ0
  | _, _, _, _, .nil => ⟨[], [], List.Perm.refl _, fun _ => .nil⟩
  | 0, _, _, _, .no (τ := τ) h => ⟨τ, [], List.Perm.refl _, fun _ => .no h⟩
  | 0, _, _, _, .yes (v := u) (g := gu) (τ := τ) h => ⟨τ, [(u, gu)], List.Perm.refl _, fun _ => .no h⟩
  | i + 1, _, _, _, .no h => by
    obtain ⟨τ0, τd, h1, h2⟩ := Slots.forget (i := i) h
    exact ⟨τ0, τd, h1, fun o => .no (h2 o)⟩
  | i + 1, _, _, _, .yes (v := u) (g := gu) h => by
    obtain ⟨τ0, τd, h1, h2⟩ := Slots.forget (i := i) h
    exact ⟨(u, gu) :: τ0, τd, (h1.cons (u, gu)).trans (List.perm_middle (l₁ := τd) (l₂ := τ0) (a := (u, gu))).symm, fun o => .yes (h2 o)⟩

section
variable {C : Cn} {S : List Ob} {τ τ' : List (V × GV)} {H : Hp} {v u : V} {a p : Addr}
theorem Sim.toD {g : GV} (h : Sim C S ((v, g) :: τ) H) : Sim C S ((v, .d (toD g)) :: τ) H := by
  cases g with
  | d x => exact h
  | ob s xs => exact h.lockOb
/-- the value's entry goes behind -/
theorem Sim.back {e : V × GV} (h : Sim C S (e :: (τ' ++ τ)) H) : Sim C S (τ' ++ e :: τ) H := h.perm (List.perm_middle)
theorem Sim.front {e : V × GV} (h : Sim C S (τ' ++ e :: τ) H) : Sim C S (e :: (τ' ++ τ)) H := h.perm (List.perm_middle).symm
end

/-! ### the readings that ask the model itself -/
section
variable (X : Cx)
def UE (e : Expr) : TE := fun σ H Q => ∀ pins s, Inv X pins σ H s → wpAny (model X.prog X.w) X.A (eval e X.env) (EP X pins σ Q) X.xe s
def UT (e : Expr) : TT := fun σ H Q => ∀ pins s, Inv X pins σ H s → wpAny (model X.prog X.w) X.A (isTrue e X.env (eval e X.env)) (TP X pins σ Q) X.xe s
def UA (es : List Expr) : TA := fun σ H Q => ∀ pos pins s, Inv X pins σ H s → wpAny (model X.prog X.w) X.A (spliced (backTo pos (starEach es X.env))) (AP X pins σ Q) X.xe s
def US (st : Stmt) : TS := fun D σ H => ∀ pins s, Inv X pins σ H s → wpAny (model X.prog X.w) X.A (exec st X.env) (SP X pins D) X.xe s
def USs (st : List Stmt) : TS := fun D σ H => ∀ pins s, Inv X pins σ H s → wpAny (model X.prog X.w) X.A (execs st X.env) (SP X pins D) X.xe s
def UG (tg : Expr) : TG := fun v σ H Q => ∀ pins s u, Inv X pins σ H s → RelV v u → wpAny (model X.prog X.w) X.A (assign tg X.env u) (fun _ s' => ∃ σ' H', Inv X pins σ' H' s' ∧ Q σ' H') X.xe s
end
section
variable {X : Cx} {e : Expr}
theorem pe_u : PE X e (UE X e) := ⟨fun pins s σ H Q I h => h pins s I⟩
theorem pt_u : PT X e (UT X e) := ⟨fun pins s σ H Q I h => h pins s I⟩
theorem pa_u {es : List Expr} : PA X es (UA X es) := ⟨fun pos pins s σ H Q I h => h pos pins s I⟩
theorem ps_u {st : Stmt} : PS X st (US X st) := ⟨fun pins s σ H D I h => h pins s I⟩
theorem pss_u {st : List Stmt} : PSs X st (USs X st) := ⟨fun pins s σ H D I h => h pins s I⟩
theorem pg_u : PG X e (UG X e) := ⟨fun pins s σ H v u Q I r h => h pins s u I r⟩
theorem ue_of {t : TE} {σ : L2.St} {H : Hp} {Q : VK} (h : PE X e t) (q : t σ H Q) : UE X e σ H Q := fun pins s I => h.run pins s σ H Q I q
theorem ut_of {t : TT} {σ : L2.St} {H : Hp} {Q : Bool → Hp → Prop} (h : PT X e t) (q : t σ H Q) : UT X e σ H Q := fun pins s I => h.run pins s σ H Q I q
theorem ua_of {es : List Expr} {t : TA} {σ : L2.St} {H : Hp} {Q : List V → Hp → Prop} (h : PA X es t) (q : t σ H Q) : UA X es σ H Q := fun pos pins s I => h.run pos pins s σ H Q I q
theorem us_of {st : Stmt} {t : TS} {σ : L2.St} {H : Hp} {D : Ends} (h : PS X st t) (q : t D σ H) : US X st D σ H := fun pins s I => h.run pins s σ H D I q
theorem uss_of {st : List Stmt} {t : TS} {σ : L2.St} {H : Hp} {D : Ends} (h : PSs X st t) (q : t D σ H) : USs X st D σ H := fun pins s I => h.run pins s σ H D I q
theorem ug_of {t : TG} {v : V} {σ : L2.St} {H : Hp} {Q : L2.St → Hp → Prop} (h : PG X e t) (q : t v σ H Q) : UG X e v σ H Q := fun pins s u I r => h.run pins s σ H v u Q I r q
end

/-! ### to be sound -/
section
variable (X : Cx) (C : Cn)
/-- c reckons what e gives -/
def Snd (c : M GV) (e : Expr) : Prop := ∀ (σ : L2.St) (ρ : List (Option GV)) (S : List Ob) (τρ τ : List (V × GV)) (H : Hp) (Q : VK), Slots σ ρ τρ → Sim C S (τρ ++ τ) H →
  (c ⟨ρ, S⟩).post (fun g t => ∀ v H' τρ', Slots σ t.ρ τρ' → Sim C t.S ((v, g) :: (τρ' ++ τ)) H' → Q v H') → UE X e σ H Q
def SndT (c : M Bool) (e : Expr) : Prop := ∀ (σ : L2.St) (ρ : List (Option GV)) (S : List Ob) (τρ τ : List (V × GV)) (H : Hp) (Q : Bool → Hp → Prop), Slots σ ρ τρ → Sim C S (τρ ++ τ) H →
  (c ⟨ρ, S⟩).post (fun b t => ∀ H' τρ', Slots σ t.ρ τρ' → Sim C t.S (τρ' ++ τ) H' → Q b H') → UT X e σ H Q
/-- a row of data -/
def SndA (c : M (List D)) (es : List Expr) : Prop := ∀ (σ : L2.St) (ρ : List (Option GV)) (S : List Ob) (τρ τ : List (V × GV)) (H : Hp) (Q : List V → Hp → Prop), Slots σ ρ τρ → Sim C S (τρ ++ τ) H →
  (c ⟨ρ, S⟩).post (fun xs t => ∀ vs H' τρ', Slots σ t.ρ τρ' → vs.length = xs.length → Sim C t.S (vs.zip (xs.map GV.d) ++ (τρ' ++ τ)) H' → Q vs H') → UA X es σ H Q
end

/-! ### words -/
def cBad : M GV := bad
def cC (x : D) : M GV := fun t => .ok (.d x) t
/-- a variable; an own list is locked from here on -/
def cVar (i : Nat) : M GV := fun t => match t.ρ[i]? with
  | some (some (.d x)) => .ok (.d x) t
  | some (some (.ob s xs)) => .ok (.d (dOb s xs)) ⟨t.ρ.set i (some (.d (dOb s xs))), t.S⟩
  | _ => .bad
/-- data, locked -/
def vl (c : M GV) : M D := fun t => (c t).bind fun g t => .ok (toD g) t
@[simp] theorem cC_eq (x : D) (t : T) : cC x t = .ok (.d x) t := rfl
section
variable {X : Cx} {C : Cn}
theorem snd_bad {e : Expr} : Snd X C cBad e := fun _ _ _ _ _ _ _ _ _ h => h.elim
theorem snd_var {i : Nat} {x : Str} {pos : Pos} (hN : X.N[i]? = some x) (hv : Vis X.env.scope x) (hd : (x == ("__debug__" : Str)) = false) (hcd : (x == ("__classdict__" : Str)) = false) : Snd X C (cVar i) (.Name x pos) := fun σ ρ S τρ τ H Q sl hs h => by
  unfold cVar at h
  split at h
  · rename_i y e
    obtain ⟨v, h1, h2⟩ := sl.get e
    exact ue_of (pe_var hN hv hd hcd) ⟨v, h1, h v H τρ sl (hs.dup (List.mem_append_left _ h2))⟩
  · rename_i so xs e1
    obtain ⟨v, τ0, h1, h2, h3, h4⟩ := sl.out e1
    obtain ⟨τ', p1, s1⟩ := h4 v (.d (dOb so xs))
    have hσ : σ.set i (some v) = σ := by
      obtain ⟨hi, ei⟩ := List.getElem?_eq_some_iff.mp h1
      rw [← ei]; exact List.set_getElem_self hi
    rw [hσ] at s1
    have z := Sim.lockOb (hs.perm (h2.symm.append_right τ))
    have z2 : Sim C S (τ' ++ τ) H := z.perm (p1.append_right τ)
    have z3 : Sim C S ((v, .d (dOb so xs)) :: (τ' ++ τ)) H := z2.dup (List.mem_append_left _ (p1.mem_iff.mpr (List.mem_cons_self ..)))
    exact ue_of (pe_var hN hv hd hcd) ⟨v, h1, h v H τ' s1 z3⟩
  · exact h.elim
theorem snd_int {i j pos} : Snd X C (cC (.int i)) (.Constant (.int i) j pos) := fun σ ρ S τρ τ H Q sl hs h => ue_of pe_int (h _ H τρ sl (hs.int i))
theorem snd_bl {b j pos} : Snd X C (cC (.bool b)) (.Constant (.bool b) j pos) := fun σ ρ S τρ τ H Q sl hs h => ue_of pe_bl (h _ H τρ sl (hs.bl b))
theorem snd_non {j pos} : Snd X C (cC .none) (.Constant .none j pos) := fun σ ρ S τρ τ H Q sl hs h => ue_of pe_non (h _ H τρ sl hs.non)
theorem snd_str {x j pos} : Snd X C (cC (.str x)) (.Constant (.str x) j pos) := fun σ ρ S τρ τ H Q sl hs h => ue_of pe_str (h _ H τρ sl (hs.str x))
/-- a global that is data of the written part -/
theorem snd_glob {x : Str} {v : V} {d : D} {u : Value} {pos : Pos} (hg : Gl X x) (hm : X.mg x = some u) (r : RelV v u) (k : Rp C (fun _ => none) [] v d) (hd : (x == ("__debug__" : Str)) = false) : Snd X C (cC d) (.Name x pos) :=
  fun σ ρ S τρ τ H Q sl hs h => ue_of (pe_glob hg hm r hd) (h _ H τρ sl (hs.const k))
theorem snd_fn {x : Str} {i : Nat} {a : Addr} {pos : Pos} (hg : Gl X x) (hm : X.mg x = some (.ref a)) (k : C.fa i = some a) (hd : (x == ("__debug__" : Str)) = false) : Snd X C (cC (dFn i)) (.Name x pos) :=
  fun σ ρ S τρ τ H Q sl hs h => ue_of (pe_glob hg hm (v := .ref a) rfl hd) (h _ H τρ sl (hs.fn k))
/-- locked -/
theorem Snd.vl {c : M GV} {e : Expr} (h : Snd X C c e) {σ : L2.St} {ρ : List (Option GV)} {S : List Ob} {τρ τ : List (V × GV)} {H : Hp} {Q : VK} (sl : Slots σ ρ τρ) (hs : Sim C S (τρ ++ τ) H)
    (q : (vl c ⟨ρ, S⟩).post (fun x t => ∀ v H' τρ', Slots σ t.ρ τρ' → Sim C t.S ((v, .d x) :: (τρ' ++ τ)) H' → Q v H')) : UE X e σ H Q := by
  refine h σ ρ S τρ τ H Q sl hs ?_
  have q' := R.post_bind.mp (show ((c ⟨ρ, S⟩).bind fun g t => R.ok (Mi.toD g) t).post _ from q)
  exact R.post_imp q' fun g t k v H' τρ' sl' hs' => k v H' τρ' sl' hs'.toD
end

/-! ### operands: a variable is read late -/
inductive Opd where
  | var (i : Nat) | val (c : M GV)
def Opd.first (a : Opd) : M D := match a with
  | .var i => fun t => match t.ρ[i]? with
    | some (some _) => .ok .none t
    | _ => .bad
  | .val c => vl c
def Opd.late (a : Opd) (x : D) (t : T) : Option D := match a with
  | .var i => match t.ρ[i]? with
    | some (some g) => some (toD g)
    | _ => none
  | .val _ => some x
/-- what is read at once: locked data, or an own list -/
def Rb (C : Cn) (F : Hp) (m : List Addr) (H : Hp) (v : V) (x : D) : Prop := Rp C F m v x ∨ ∃ (a : Addr) (s : Sh) (vs : List V) (xs : List D), v = .ref a ∧ x = dOb s xs ∧ H a = some (hob s vs) ∧ RpL C F m vs xs
section
variable {X : Cx} {C : Cn} {F : Hp} {m : List Addr} {S : List Ob} {τ : List (V × GV)} {H : Hp} {v : V}
theorem Ok.rb {g : GV} (h : Ok C F m S τ H) (hm : (v, g) ∈ τ) : Rb C F m H v (toD g) := by
  have := h.held _ hm
  cases g with
  | d x => exact .inl this
  | ob s xs =>
    obtain ⟨a, vs, rfl, h1, _, h2⟩ := this
    exact .inr ⟨a, s, vs, xs, rfl, rfl, h1, h2⟩
theorem Rb.int {i : Int} (b : Rb C F m H v (.int i)) : v = .int i := by
  rcases b with r | ⟨a, s, vs, xs, rfl, e, _⟩
  · cases r; rfl
  · cases s <;> cases e
theorem Rb.bl {i : Bool} (b : Rb C F m H v (.bool i)) : v = .bl i := by
  rcases b with r | ⟨a, s, vs, xs, rfl, e, _⟩
  · cases r; rfl
  · cases s <;> cases e
theorem Rb.str {i : Str} (b : Rb C F m H v (.str i)) : v = .str i := by
  rcases b with r | ⟨a, s, vs, xs, rfl, e, _⟩
  · cases r; rfl
  · cases s <;> cases e
theorem Rb.non (b : Rb C F m H v .none) : v = .non := by
  rcases b with r | ⟨a, s, vs, xs, rfl, e, _⟩
  · cases r; rfl
  · cases s <;> cases e
theorem Rb.tup {xs : List D} (b : Rb C F m H v (.tuple xs)) (e : Sub F H) : ∃ a vs, v = .ref a ∧ SqT C.K H a vs ∧ RpL C F m vs xs := by
  rcases b with r | ⟨a, s, vs, xs, rfl, q, _⟩
  · cases r with
    | tup s _ r => exact ⟨_, _, rfl, e.sqT s, r⟩
  · cases s <;> cases q
/-- a tuple that is none of the written part's stands tracked itself -/
theorem Rb.tupT {xs : List D} (b : Rb C F m H v (.tuple xs)) (e : Sub F H) (k : C.kc xs = false) : ∃ a vs, v = .ref a ∧ H a = some (.tup vs) ∧ RpL C F m vs xs := by
  rcases b with r | ⟨a, s, vs, xs, rfl, q, _⟩
  · cases r with
    | tup s o r =>
      rcases o with o | o
      · exact ⟨_, _, rfl, e _ _ o, r⟩
      · rw [k] at o; cases o
  · cases s <;> cases q
theorem Rb.lst {xs : List D} (b : Rb C F m H v (.list xs)) (e : Sub F H) : ∃ a vs, v = .ref a ∧ H a = some (.lst vs) ∧ RpL C F m vs xs := by
  rcases b with r | ⟨a, s, vs, xs', rfl, q, h1, r⟩
  · cases r with
    | lst s r => exact ⟨_, _, rfl, e _ _ s, r⟩
  · cases s <;> cases q
    exact ⟨a, vs, rfl, h1, r⟩
theorem Rb.far {xs : List D} (b : Rb C F m H v (dFar xs)) (e : Sub F H) : ∃ a vs, v = .ref a ∧ SqL C.K H a vs ∧ RpL C F m vs xs := by
  rcases b with r | ⟨a, s, vs, xs', rfl, q, h1, r⟩
  · cases r with
    | far s r => exact ⟨_, _, rfl, e.sqL s, r⟩
  · cases s <;> cases q
theorem Rb.fn {x : Nat} (b : Rb C F m H v (dFn x)) : ∃ a, v = .ref a ∧ C.fa x = some a := by
  rcases b with r | ⟨a, s, vs, xs', rfl, q, h1, r⟩
  · generalize hx : dFn x = d at r
    cases r with
    | @fn a' x' s =>
      have z : x = x' := by simp at hx; exact Int.ofNat.inj hx
      subst z
      exact ⟨_, rfl, s⟩
    | _ => cases hx
  · cases s <;> cases q
theorem Rb.ref {n : Nat} {xs : List D} (b : Rb C F m H v (dRef n)) (h : Ok C F m S τ H) (hn : S[n]? = some (.lst xs)) : ∃ a vs, v = .ref a ∧ H a = some (.lst vs) ∧ RpL C F m vs xs := by
  rcases b with r | ⟨a, s, vs, xs', rfl, q, h1, r⟩
  · cases r with
    | ref s =>
      obtain ⟨vs, h1, h2, h3⟩ := h.st n _ _ hn s
      exact ⟨_, vs, rfl, h1, h3⟩
  · cases s <;> cases q
/-- the items of a list by what it is; of a list or tuple -/
def lisOf (S : List Ob) : D → Option (List D)
  | .list xs => some xs
  | .dict [(.dict [], .int n)] => if 0 ≤ n then match S[n.toNat]? with
    | some (.ob .l xs) => some xs
    | _ => none
    else none
  | _ => none
def itemsOf (S : List Ob) : D → Option (List D)
  | .tuple xs => some xs
  | x => lisOf S x
theorem Rb.lisOf {x : D} {xs : List D} (b : Rb C F m H v x) (h : Ok C F m S τ H) (e : lisOf S x = some xs) : ∃ a vs, v = .ref a ∧ H a = some (.lst vs) ∧ RpL C F m vs xs := by
  unfold Mi.lisOf at e
  split at e
  · cases e
    exact b.lst h.sub
  · rename_i n
    split at e
    · split at e
      · rename_i h0 _ _ q
        cases e
        have z : (n.toNat : Int) = n := Int.toNat_of_nonneg h0
        exact Rb.ref (n := n.toNat) (by rw [show dRef n.toNat = .dict [(.dict [], .int n)] by rw [← z]; rfl]; exact b) h q
      · cases e
    · cases e
  · cases e
theorem Rb.items {x : D} {xs : List D} (b : Rb C F m H v x) (h : Ok C F m S τ H) (e : itemsOf S x = some xs) : ∃ a vs, v = .ref a ∧ (H a = some (.lst vs) ∨ SqT C.K H a vs) ∧ RpL C F m vs xs := by
  unfold itemsOf at e
  split at e
  · cases e
    obtain ⟨a, vs, h1, h2, h3⟩ := b.tup h.sub
    exact ⟨a, vs, h1, .inr h2, h3⟩
  · obtain ⟨a, vs, h1, h2, h3⟩ := b.lisOf h e
    exact ⟨a, vs, h1, .inl h2, h3⟩
end
/-- an operand's expression -/
def SndO (X : Cx) (C : Cn) (a : Opd) (e : Expr) : Prop := match a with
  | .var i => PE X e (tVar i)
  | .val c => Snd X C c e
section
variable {X : Cx} {C : Cn}
/-- one operand evaluated: its value; later it reads as told -/
theorem SndO.go {a : Opd} {e : Expr} (h : SndO X C a e) {σ : L2.St} {ρ : List (Option GV)} {S : List Ob} {τρ τ : List (V × GV)} {H : Hp} {Q : VK} (sl : Slots σ ρ τρ) (hs : Sim C S (τρ ++ τ) H)
    (q : (a.first ⟨ρ, S⟩).post (fun x t => ∀ v H' τρ' τ1, Slots σ t.ρ τρ' → Sim C t.S (τρ' ++ (τ1 ++ τ)) H' →
      (∀ (t2 : T) H2 τρ2 τ2 y F m, Slots σ t2.ρ τρ2 → Ok C F m t2.S (τρ2 ++ (τ2 ++ (τ1 ++ τ))) H2 → a.late x t2 = some y → Rb C F m H2 v y) → Q v H')) : UE X e σ H Q := by
  cases a with
  | var i =>
    have q' : (match ρ[i]? with
      | some (some _) => (R.ok PyData.none ⟨ρ, S⟩ : R D)
      | _ => .bad).post _ := q
    split at q'
    · rename_i g hg
      obtain ⟨v, h1, h2⟩ := sl.get hg
      refine ue_of h ⟨v, h1, ?_⟩
      refine q' v H τρ [] sl hs fun t2 H2 τρ2 τ2 y F m sl2 hs2 e => ?_
      have e' : (match t2.ρ[i]? with
        | some (some g) => some (toD g)
        | _ => none) = some y := e
      split at e'
      · rename_i g' eg
        cases e'
        obtain ⟨v', h1', h2'⟩ := sl2.get eg
        rw [h1] at h1'; cases h1'
        exact hs2.rb (List.mem_append_left _ h2')
      · cases e'
    · exact q'.elim
  | val c =>
    refine Snd.vl h sl hs (R.post_imp q fun x t k v H' τρ' sl' hs' => ?_)
    refine k v H' τρ' [(v, .d x)] sl' hs'.back fun t2 H2 τρ2 τ2 y F m sl2 hs2 e => ?_
    have e' : some x = some y := e
    cases e'
    exact hs2.rb (g := .d x) (List.mem_append_right _ (List.mem_append_right _ (List.mem_append_left _ (List.mem_cons_self ..))))
end
/-- entries between are let go -/
theorem Sim.mid {C : Cn} {S : List Ob} {τ τ' τρ : List (V × GV)} {H : Hp} {e : V × GV} (h : Sim C S (e :: (τρ ++ (τ' ++ τ))) H) : Sim C S (e :: (τρ ++ τ)) H := by
  refine h.re (fun q hq => ?_) fun a => ?_
  · simp only [List.mem_cons, List.mem_append] at hq ⊢
    rcases hq with h | h | h
    · exact .inl h
    · exact .inr (.inl h)
    · exact .inr (.inr (.inr h))
  · rw [show e :: (τρ ++ τ) = [e] ++ (τρ ++ τ) from rfl, show e :: (τρ ++ (τ' ++ τ)) = [e] ++ (τρ ++ (τ' ++ τ)) from rfl]
    simp only [own_app, List.count_append]
    omega

/-! ### operators -/
def cOp1 (f : List Ob → D → Option GV) (a : Opd) : M GV := fun t => (a.first t).bind fun x t1 => match a.late x t1 with
  | some y => (match f t1.S y with
    | some g => .ok g t1
    | none => .bad)
  | none => .bad
def cOp2 (f : List Ob → D → D → Option GV) (a b : Opd) : M GV := fun t => (a.first t).bind fun x t1 => (b.first t1).bind fun y t2 => match a.late x t2, b.late y t2 with
  | some x', some y' => (match f t2.S x' y' with
    | some g => .ok g t2
    | none => .bad)
  | _, _ => .bad
def Op1Ok (C : Cn) (f : List Ob → D → Option GV) (r : V → Hp → VK → Prop) : Prop := ∀ F m S τ H v x g (Q : VK), Ok C F m S τ H → Rb C F m H v x → f S x = some g → (∀ w H', Sim C S ((w, g) :: τ) H' → Q w H') → r v H Q
def Op2Ok (C : Cn) (f : List Ob → D → D → Option GV) (r : R2) : Prop := ∀ F m S τ H v u x y g (Q : VK), Ok C F m S τ H → Rb C F m H v x → Rb C F m H u y → f S x y = some g → (∀ w H', Sim C S ((w, g) :: τ) H' → Q w H') → r v u H Q
section
variable {X : Cx} {C : Cn}
theorem go_op1 {f : List Ob → D → Option GV} {r : V → Hp → VK → Prop} {a : Opd} {ea : Expr} (hf : Op1Ok C f r) (ha : SndO X C a ea) {σ : L2.St} {ρ : List (Option GV)} {S : List Ob} {τρ τ : List (V × GV)} {H : Hp} {Q : VK} (sl : Slots σ ρ τρ) (hs : Sim C S (τρ ++ τ) H)
    (q : (cOp1 f a ⟨ρ, S⟩).post fun g t => ∀ v H' τρ', Slots σ t.ρ τρ' → Sim C t.S ((v, g) :: (τρ' ++ τ)) H' → Q v H') : UE X ea σ H fun v H1 => r v H1 Q := by
  refine ha.go sl hs (R.post_imp (R.post_bind.mp q) fun x t k v H1 τρ1 τ1 sl1 hs1 late => ?_)
  split at k
  · rename_i y ey
    split at k
    · rename_i g eg
      obtain ⟨F, m, ok⟩ := hs1
      exact hf F m t.S _ H1 v y g Q ok (late t H1 τρ1 [] y F m sl1 ok ey) eg fun w H' hs2 => k w H' τρ1 sl1 hs2.mid
    · exact k.elim
  · exact k.elim
theorem go_op2 {f : List Ob → D → D → Option GV} {r : R2} {a b : Opd} {ea eb : Expr} (hf : Op2Ok C f r) (ha : SndO X C a ea) (hb : SndO X C b eb) {σ : L2.St} {ρ : List (Option GV)} {S : List Ob} {τρ τ : List (V × GV)} {H : Hp} {Q : VK} (sl : Slots σ ρ τρ) (hs : Sim C S (τρ ++ τ) H)
    (q : (cOp2 f a b ⟨ρ, S⟩).post fun g t => ∀ v H' τρ', Slots σ t.ρ τρ' → Sim C t.S ((v, g) :: (τρ' ++ τ)) H' → Q v H') : tOp r (UE X ea) (UE X eb) σ H Q := by
  refine ha.go sl hs (R.post_imp (R.post_bind.mp q) fun x t k v H1 τρ1 τ1 sl1 hs1 late => ?_)
  refine hb.go sl1 hs1 (R.post_imp (R.post_bind.mp k) fun y t2 k2 u H2 τρ2 τ2 sl2 hs2 late2 => ?_)
  split at k2
  · rename_i x' y' ex ey
    split at k2
    · rename_i g eg
      obtain ⟨F, m, ok⟩ := hs2
      have l1 := late t2 H2 τρ2 τ2 x' F m sl2 ok ex
      have l2 := late2 t2 H2 τρ2 [] y' F m sl2 ok ey
      exact hf F m t2.S _ H2 v u x' y' g Q ok l1 l2 eg fun w H' hs3 => k2 w H' τρ2 sl2 (Sim.mid (Sim.mid hs3))
    · exact k2.elim
  · exact k2.elim
theorem snd_op1 {f : List Ob → D → Option GV} {r : V → Hp → VK → Prop} {a : Opd} {ea e : Expr} (hf : Op1Ok C f r) (ha : SndO X C a ea) (he : PE X e (fun σ H Q => UE X ea σ H fun v H1 => r v H1 Q)) : Snd X C (cOp1 f a) e :=
  fun σ ρ S τρ τ H Q sl hs q => ue_of he (go_op1 hf ha sl hs q)
theorem snd_op2 {f : List Ob → D → D → Option GV} {r : R2} {a b : Opd} {ea eb e : Expr} (hf : Op2Ok C f r) (ha : SndO X C a ea) (hb : SndO X C b eb) (he : PE X e (tOp r (UE X ea) (UE X eb))) : Snd X C (cOp2 f a b) e :=
  fun σ ρ S τρ τ H Q sl hs q => ue_of he (go_op2 hf ha hb sl hs q)
/-- what is a truth, as a test -/
def tB (c : M GV) : M Bool := fun t => (c t).bind fun g t1 => match g with
  | .d (.bool b) => .ok b t1
  | _ => .bad
theorem tB_post {c : M GV} {t0 : T} {k : Bool → T → Prop} (h : (tB c t0).post k) : (c t0).post fun g t => ∃ b, g = .d (.bool b) ∧ k b t := by
  refine R.post_imp (R.post_bind.mp h) fun g t q => ?_
  split at q
  · exact ⟨_, rfl, q⟩
  · exact q.elim
theorem sndT_op1 {f : List Ob → D → Option GV} {r : V → Hp → VK → Prop} {a : Opd} {ea e : Expr} (hf : Op1Ok C f r) (ha : SndO X C a ea) (he : PT X e (fun σ H Q => UE X ea σ H fun v H1 => r v H1 fun x H2 => ∃ k, x = .bl k ∧ Q k H2)) : SndT X C (tB (cOp1 f a)) e :=
  fun σ ρ S τρ τ H Q sl hs q => ut_of he (go_op1 hf ha sl hs (R.post_imp (tB_post q) fun g t ⟨b, e, k⟩ v H' τρ' sl' hs' => by
    subst e
    cases hs'.bl_inv
    exact ⟨b, rfl, k H' τρ' sl' hs'.tail⟩))
theorem sndT_op2 {f : List Ob → D → D → Option GV} {r : R2} {a b : Opd} {ea eb e : Expr} (hf : Op2Ok C f r) (ha : SndO X C a ea) (hb : SndO X C b eb) (he : PT X e (tTest (tOp r (UE X ea) (UE X eb)))) : SndT X C (tB (cOp2 f a b)) e :=
  fun σ ρ S τρ τ H Q sl hs q => ut_of he (go_op2 hf ha hb sl hs (R.post_imp (tB_post q) fun g t ⟨b, e, k⟩ v H' τρ' sl' hs' => by
    subst e
    cases hs'.bl_inv
    exact ⟨b, rfl, k H' τρ' sl' hs'.tail⟩))
end
end Mi

set_option Elab.async false
set_option linter.all false
set_option maxRecDepth 100000
set_option maxHeartbeats 4000000
/-! MC: operators, comparisons, places, parts. -/
namespace Mi
open PySem PySem.Spec PyProof.Rows L2 PySem.W PySem.SeqAt
def lim : Nat := 1000000
theorem lim_line {n : Nat} (h : n ≤ lim) : n ≤ sizeLine := Nat.le_trans h (by rw [sizeLine_eq]; decide)
theorem lim_lt {n : Nat} (h : n < lim) : n < sizeLine := Nat.lt_of_lt_of_le h (by rw [sizeLine_eq]; decide)
section
variable {X : Cx} {C : Cn}
theorem Ok.sim {F m S τ H} (h : Ok C F m S τ H) : Sim C S τ H := ⟨F, m, h⟩
theorem Ok.newTup {F m S τ H} {p : Addr} {vs : List V} {xs : List D} (h : Ok C F m S τ H) (r : RpL C F m vs xs) (hp : H p = none) : Sim C S ((.ref p, .d (.tuple xs)) :: τ) (upd H p (.tup vs)) :=
  Sim.newTup (h.adds r).sim r.len hp
theorem Ok.newLst {F m S τ H} {p : Addr} {vs : List V} {xs : List D} (h : Ok C F m S τ H) (r : RpL C F m vs xs) (hp : H p = none) : Sim C S ((.ref p, .fl xs) :: τ) (upd H p (.lst vs)) :=
  Sim.newLst (h.adds r).sim r.len hp
/-- two tuples put together may be one of them -/
theorem Rb.simTup {F m S τ H} {v : V} {xs : List D} (h : Ok C F m S τ H) (b : Rb C F m H v (.tuple xs)) : Sim C S ((v, .d (.tuple xs)) :: τ) H := by
  rcases b with r | ⟨a, s, vs, ys, rfl, q, _⟩
  · exact (h.add r).sim
  · cases s <;> cases q

/-! ### + - * // % << ** -/
def fAdd (_ : List Ob) : D → D → Option GV
  | .int i, .int j => some (.d (.int (i + j)))
  | .tuple xs, .tuple ys => if xs.length + ys.length ≤ lim then some (.d (.tuple (xs ++ ys))) else none
  | .list xs, .list ys => if xs.length + ys.length ≤ lim then some (.fl (xs ++ ys)) else none
  | _, _ => none
def rAddM (K : PySem.W.Frag) : R2 := fun x y H Q => rI0 (fun i j => .int (i + j)) x y H Q ∨ (rCatA K x y H Q ∨ rCat x y H Q)
theorem op_addM : OpR X (binaryOp .Add) (rAddM X.K) := op_add.or (op_catA.or op_cat)
theorem ok_add : Op2Ok C fAdd (rAddM C.K) := fun F m S τ H v u x y g Q ok b1 b2 e k => by
  unfold fAdd at e
  split at e
  · cases e
    cases b1.int; cases b2.int
    exact .inl ⟨_, _, rfl, rfl, k _ H (ok.sim.int _)⟩
  · rename_i xs ys
    split at e
    · rename_i hl
      cases e
      obtain ⟨a, vs, rfl, h1, r1⟩ := b1.tup ok.sub
      obtain ⟨b, us, rfl, h2, r2⟩ := b2.tup ok.sub
      refine .inr (.inl ⟨a, b, vs, us, rfl, rfl, h1, h2, by rw [r1.len, r2.len]; exact lim_line hl, fun z => ?_, fun _ z => ?_, fun _ _ p hp => ?_⟩)
      · subst z
        cases r1
        exact k _ H (b2.simTup ok)
      · subst z
        cases r2
        rw [List.append_nil] at k
        exact k _ H (b1.simTup ok)
      · exact k _ _ (ok.newTup (r1.app r2) hp)
    · cases e
  · rename_i xs ys
    split at e
    · rename_i hl
      cases e
      obtain ⟨a, vs, rfl, h1, r1⟩ := b1.lst ok.sub
      obtain ⟨b, us, rfl, h2, r2⟩ := b2.lst ok.sub
      exact .inr (.inr ⟨a, b, vs, us, rfl, rfl, h1, h2, by rw [r1.len, r2.len]; exact lim_line hl, fun p hp => k _ _ (ok.newLst (r1.app r2) hp)⟩)
    · cases e
  · cases e
/-- two ints under a condition -/
def fInt (c : Int → Int → Bool) (f : Int → Int → D) (_ : List Ob) : D → D → Option GV
  | .int i, .int j => if c i j then some (.d (f i j)) else none
  | _, _ => none
theorem ok_int {c : Int → Int → Bool} {Cd : Int → Int → Prop} {f : Int → Int → Int} (hc : ∀ i j, c i j = true → Cd i j) : Op2Ok C (fInt c fun i j => .int (f i j)) (rI Cd fun i j => .int (f i j)) := fun F m S τ H v u x y g Q ok b1 b2 e k => by
  unfold fInt at e
  split at e
  · split at e
    · rename_i i j hcd
      cases e
      cases b1.int; cases b2.int
      exact ⟨i, j, rfl, rfl, hc i j hcd, k _ H (ok.sim.int _)⟩
    · cases e
  · cases e
theorem ok_int0 {f : Int → Int → Int} : Op2Ok C (fInt (fun _ _ => true) fun i j => .int (f i j)) (rI0 fun i j => .int (f i j)) := fun F m S τ H v u x y g Q ok b1 b2 e k => by
  unfold fInt at e
  split at e
  · rename_i i j
    simp at e
    cases e
    cases b1.int; cases b2.int
    exact ⟨i, j, rfl, rfl, k _ H (ok.sim.int _)⟩
  · cases e
theorem ok_intB {f : Int → Int → Bool} : Op2Ok C (fInt (fun _ _ => true) fun i j => .bool (f i j)) (rI0 fun i j => .bl (f i j)) := fun F m S τ H v u x y g Q ok b1 b2 e k => by
  unfold fInt at e
  split at e
  · rename_i i j
    simp at e
    cases e
    cases b1.int; cases b2.int
    exact ⟨i, j, rfl, rfl, k _ H (ok.sim.bl _)⟩
  · cases e
def fSub := fInt (fun _ _ => true) fun i j => .int (i - j)
def cMulB (i j : Int) : Bool := decide (i.natAbs.log2 + j.natAbs.log2 < 1000000)
def fMul := fInt cMulB fun i j => .int (i * j)
def cDivB (i j : Int) : Bool := decide (0 < j) && decide (j.natAbs.log2 < 9000)
def fDiv := fInt cDivB fun i j => .int (i / j)
def cModB (_ j : Int) : Bool := decide (0 < j)
def fMod := fInt cModB fun i j => .int (i % j)
def cPowB (i j : Int) : Bool := decide (0 ≤ j) && decide (j ≤ 1000000) && decide (i.natAbs < 2 ^ 64)
def fPow := fInt cPowB fun i j => .int (i ^ j.toNat)
def fShl := fInt cPowB fun i j => .int (i * 2 ^ j.toNat)
def cShrB (_ j : Int) : Bool := decide (0 ≤ j)
def fShr := fInt cShrB fun i j => .int (i / 2 ^ j.toNat)
theorem ok_mul : Op2Ok C fMul (rI CMulW fun i j => .int (i * j)) := ok_int fun i j h => (of_decide_eq_true h : i.natAbs.log2 + j.natAbs.log2 < 1000000)
theorem ok_div : Op2Ok C fDiv (rI CDivW fun i j => .int (i / j)) := ok_int fun _ _ h => by
  unfold cDivB at h; rw [Bool.and_eq_true] at h
  exact ⟨of_decide_eq_true h.1, of_decide_eq_true h.2⟩
theorem ok_mod : Op2Ok C fMod (rI (fun _ j => 0 < j) fun i j => .int (i % j)) := ok_int fun _ _ h => of_decide_eq_true h
theorem cPow_of {i j : Int} (h : cPowB i j = true) : CPow i j := by
  unfold cPowB at h; rw [Bool.and_eq_true, Bool.and_eq_true] at h
  exact ⟨of_decide_eq_true h.1.1, of_decide_eq_true h.1.2, of_decide_eq_true h.2⟩
theorem ok_pow : Op2Ok C fPow (rI CPow fun i j => .int (i ^ j.toNat)) := ok_int fun _ _ h => cPow_of h
theorem ok_shl : Op2Ok C fShl (rI CPow fun i j => .int (i * 2 ^ j.toNat)) := ok_int fun _ _ h => cPow_of h
theorem ok_shr : Op2Ok C fShr (rI (fun _ j => 0 ≤ j) fun i j => .int (i / 2 ^ j.toNat)) := ok_int fun _ _ h => of_decide_eq_true h
def fLt := fInt (fun _ _ => true) fun i j => .bool (decide (i < j))
def fLe := fInt (fun _ _ => true) fun i j => .bool (decide (i ≤ j))
def fGt := fInt (fun _ _ => true) fun i j => .bool (decide (j < i))
def fGe := fInt (fun _ _ => true) fun i j => .bool (decide (j ≤ i))

/-! ### ==, !=, in -/
mutual
theorem Rp.dp {F : Hp} {m : List Addr} {H : Hp} (e : Sub F H) : ∀ (x : D) (v : V), x.plain = true → Rp C F m v x → Dp C.K H v x
  | .none, _, _, r => by cases r; exact .non
  | .bool _, _, _, r => by cases r; exact .bl _
  | .int _, _, _, r => by cases r; exact .int _
  | .str _, _, _, r => by cases r; exact .str _
  | .tuple xs, _, p, r => by
    have p' : PyData.plainAll xs = true := by rw [PyData.plain] at p; exact p
    cases r with
    | tup h _ r => exact .tup (e.sqT h) (RpL.dp e xs _ p' r)
  | .list xs, _, p, r => by
    have p' : PyData.plainAll xs = true := by rw [PyData.plain] at p; exact p
    cases r with
    | lst h r => exact .lst (.inl (.inl (e _ _ h))) (RpL.dp e xs _ p' r)
  | .dict _, _, p, _ => by rw [PyData.plain] at p; cases p
theorem RpL.dp {F : Hp} {m : List Addr} {H : Hp} (e : Sub F H) : ∀ (xs : List D) (vs : List V), PyData.plainAll xs = true → RpL C F m vs xs → DpAll C.K H vs xs
  | [], _, _, r => by cases r; exact .nil
  | x :: xs, _, p, r => by
    rw [PyData.plainAll, Bool.and_eq_true] at p
    cases r with
    | cons h t => exact .cons (Rp.dp e x _ p.1 h) (RpL.dp e xs _ p.2 t)
end
theorem Rb.dp {F : Hp} {m : List Addr} {H : Hp} {v : V} {x : D} (b : Rb C F m H v x) (e : Sub F H) (p : x.plain = true) : Dp C.K H v x := by
  rcases b with r | ⟨a, s, vs, xs, rfl, rfl, h1, r⟩
  · exact r.dp e _ _ p
  cases s with
  | k ks => exact absurd p (by unfold dOb dDk; rw [PyData.plain]; exact Bool.false_ne_true)
  | t ks => exact absurd p (by unfold dOb dDt; rw [PyData.plain]; exact Bool.false_ne_true)
  | l =>
    have p : PyData.plain (.list xs) = true := p
    exact .lst (.inl (.inl h1)) (r.dp e _ _ (by rw [PyData.plain] at p; exact p))
def eqB (x y : D) : Bool := x.plain && y.plain && decide (min x.depth y.depth ≤ 150)
def fEq (_ : List Ob) (x y : D) : Option GV := if eqB x y then some (.d (.bool (PyData.eqv x y))) else none
def fNe (_ : List Ob) (x y : D) : Option GV := if eqB x y then some (.d (.bool (!PyData.eqv x y))) else none
def rEqP (K : PySem.W.Frag) (f : Bool → Bool) : R2 := fun x y H Q => ∃ d e, Dp K H x d ∧ Dp K H y e ∧ d.plain = true ∧ e.plain = true ∧ min d.depth e.depth ≤ 150 ∧ Q (.bl (f (PyData.eqv d e))) H
theorem op_eqP (hu : X.A.units + 200 < cLine) : OpR X (compareOp .Eq) (rEqP X.K id) := by
  intro pins s σ H x y v u Q I rx ry h
  obtain ⟨d, e, hd, he, sd, se, hm, q⟩ := h
  obtain ⟨as, r1⟩ := Dp.reads I d x v hd rx
  obtain ⟨bs, r2⟩ := Dp.reads I e y u he ry
  exact eq_plain r1 r2 sd se (by omega) ⟨.bl _, H, I, rfl, q⟩
theorem op_neP (hu : X.A.units + 200 < cLine) : OpR X (compareOp .NotEq) (rEqP X.K not) := by
  intro pins s σ H x y v u Q I rx ry h
  obtain ⟨d, e, hd, he, sd, se, hm, q⟩ := h
  obtain ⟨as, r1⟩ := Dp.reads I d x v hd rx
  obtain ⟨bs, r2⟩ := Dp.reads I e y u he ry
  exact ne_plain r1 r2 sd se (by omega) ⟨.bl _, H, I, rfl, q⟩
theorem eqB_of {x y : D} (h : eqB x y = true) : x.plain = true ∧ y.plain = true ∧ min x.depth y.depth ≤ 150 := by
  unfold eqB at h; rw [Bool.and_eq_true, Bool.and_eq_true] at h
  exact ⟨h.1.1, h.1.2, of_decide_eq_true h.2⟩
theorem ok_eq : Op2Ok C fEq (rEqP C.K id) := fun F m S τ H v u x y g Q ok b1 b2 e k => by
  unfold fEq at e
  split at e
  · rename_i h
    cases e
    obtain ⟨p1, p2, p3⟩ := eqB_of h
    exact ⟨x, y, b1.dp ok.sub p1, b2.dp ok.sub p2, p1, p2, p3, k _ H (ok.sim.bl _)⟩
  · cases e
theorem ok_ne : Op2Ok C fNe (rEqP C.K not) := fun F m S τ H v u x y g Q ok b1 b2 e k => by
  unfold fNe at e
  split at e
  · rename_i h
    cases e
    obtain ⟨p1, p2, p3⟩ := eqB_of h
    exact ⟨x, y, b1.dp ok.sub p1, b2.dp ok.sub p2, p1, p2, p3, k _ H (ok.sim.bl _)⟩
  · cases e
/-- x in a list or tuple -/
def inB (x y : D) : Bool := x.plain && y.plain && decide (min x.depth y.depth ≤ 150)
def inOf (x : D) : D → Option Bool
  | .list ys => some (ys.any fun y => PyData.eqv y x)
  | .tuple ys => some (ys.any fun y => PyData.eqv y x)
  | _ => none
def fIn (neg : Bool) (_ : List Ob) (x y : D) : Option GV := if x.plain && y.plain && decide (x.depth ≤ 150) then match inOf x y with
  | some b => some (.d (.bool (if neg then !b else b)))
  | none => none
  else none
def rInP (K : PySem.W.Frag) (neg : Bool) : R2 := fun x y H Q => ∃ d e b, Dp K H x d ∧ Dp K H y e ∧ d.plain = true ∧ e.plain = true ∧ d.depth ≤ 150 ∧ inOf d e = some b ∧ Q (.bl (if neg then !b else b)) H
theorem op_inP (hu : X.A.units + 200 < cLine) : OpR X (compareOp .In) (rInP X.K false) := by
  intro pins s σ H x y v u Q I rx ry h
  obtain ⟨d, e, b, hd, he, sd, se, hm, hb, q⟩ := h
  obtain ⟨as, r1⟩ := Dp.reads I d x v hd rx
  obtain ⟨bs, r2⟩ := Dp.reads I e y u he ry
  unfold inOf at hb
  split at hb
  · cases hb
    exact in_list_data r2 r1 (by rw [PyData.plain] at se; exact se) sd (by omega) ⟨.bl _, H, I, rfl, q⟩
  · cases hb
    exact in_tuple_data r2 r1 (by rw [PyData.plain] at se; exact se) sd (by omega) ⟨.bl _, H, I, rfl, q⟩
  · cases hb
theorem op_notInP (hu : X.A.units + 200 < cLine) : OpR X (compareOp .NotIn) (rInP X.K true) := by
  intro pins s σ H x y v u Q I rx ry h
  obtain ⟨d, e, b, hd, he, sd, se, hm, hb, q⟩ := h
  obtain ⟨as, r1⟩ := Dp.reads I d x v hd rx
  obtain ⟨bs, r2⟩ := Dp.reads I e y u he ry
  unfold inOf at hb
  split at hb
  · cases hb
    exact notIn_list_data r2 r1 (by rw [PyData.plain] at se; exact se) sd (by omega) ⟨.bl _, H, I, rfl, q⟩
  · cases hb
    exact notIn_tuple_data r2 r1 (by rw [PyData.plain] at se; exact se) sd (by omega) ⟨.bl _, H, I, rfl, q⟩
  · cases hb
theorem ok_in {neg : Bool} : Op2Ok C (fIn neg) (rInP C.K neg) := fun F m S τ H v u x y g Q ok b1 b2 e k => by
  unfold fIn at e
  split at e
  · rename_i h
    rw [Bool.and_eq_true, Bool.and_eq_true] at h
    split at e
    · rename_i b hb
      cases e
      exact ⟨x, y, b, b1.dp ok.sub h.1.1, b2.dp ok.sub h.1.2, h.1.1, h.1.2, of_decide_eq_true h.2, hb, k _ H (ok.sim.bl _)⟩
    · cases e
  · cases e
/-- is None -/
def isNon : D → Option Bool
  | .none => some true
  | .bool _ => some false
  | .int _ => some false
  | .str _ => some false
  | .tuple _ => some false
  | .list _ => some false
  | _ => none
def fIsN (_ : List Ob) (x : D) : Option GV := (isNon x).map fun b => .d (.bool b)
def fNotN (_ : List Ob) (x : D) : Option GV := (isNon x).map fun b => .d (.bool (!b))
theorem isNon_ok {F m H} {v : V} {x : D} {b : Bool} (r : Rb C F m H v x) (e : Sub F H) (h : isNon x = some b) : decide (v = .non) = b := by
  unfold isNon at h
  split at h
  · cases h; cases r.non; rfl
  · cases h; cases r.bl; rfl
  · cases h; cases r.int; rfl
  · cases h; cases r.str; rfl
  · cases h; obtain ⟨a, vs, rfl, _⟩ := r.tup e; rfl
  · cases h; obtain ⟨a, vs, rfl, _⟩ := r.lst e; rfl
  · cases h
theorem ok_isN : Op1Ok C fIsN (fun x H Q => Q (.bl (decide (x = .non))) H) := fun F m S τ H v x g Q ok b e k => by
  unfold fIsN at e
  obtain ⟨c, h1, h2⟩ := Option.map_eq_some_iff.mp e
  subst h2
  show Q _ H
  rw [isNon_ok b ok.sub h1]
  exact k _ H (ok.sim.bl _)
theorem ok_notN : Op1Ok C fNotN (fun x H Q => Q (.bl (!decide (x = .non))) H) := fun F m S τ H v x g Q ok b e k => by
  unfold fNotN at e
  obtain ⟨c, h1, h2⟩ := Option.map_eq_some_iff.mp e
  subst h2
  show Q _ H
  rw [isNon_ok b ok.sub h1]
  exact k _ H (ok.sim.bl _)
def fNeg (_ : List Ob) : D → Option GV
  | .int i => some (.d (.int (-i)))
  | _ => none
theorem ok_neg : Op1Ok C fNeg (rU fun i => .int (-i)) := fun F m S τ H v x g Q ok b e k => by
  unfold fNeg at e
  split at e
  · cases e; cases b.int
    exact ⟨_, rfl, k _ H (ok.sim.int _)⟩
  · cases e

/-! ### places and parts -/
def fIx (S : List Ob) (x y : D) : Option GV := match y with
  | .int i => (itemsOf S x).bind fun xs => (atI xs i).map GV.d
  | _ => none
def rIxM (K : PySem.W.Frag) : R2 := fun x y H Q => rIxL K x y H Q ∨ rIxT K x y H Q
theorem ix_M : IxR X (rIxM X.K) := ix_list.or ix_tup
theorem atI_rel {F m} {vs : List V} {xs : List D} {i : Int} {y : D} (r : RpL C F m vs xs) (h : atI xs i = some y) : ∃ v, atI vs i = some v ∧ Rp C F m v y := by
  unfold atI at h ⊢
  rw [r.len]
  obtain ⟨j, h1, h2⟩ := Option.bind_eq_some_iff.mp h
  rw [h1]
  obtain ⟨v, h3, h4⟩ := r.get' h2
  exact ⟨v, h3, h4⟩
theorem ok_ix : Op2Ok C fIx (rIxM C.K) := fun F m S τ H v u x y g Q ok b1 b2 e k => by
  unfold fIx at e
  split at e
  · rename_i i
    cases b2.int
    obtain ⟨xs, h1, h2⟩ := Option.bind_eq_some_iff.mp e
    obtain ⟨z, h3, h4⟩ := Option.map_eq_some_iff.mp h2
    subst h4
    obtain ⟨a, vs, rfl, hh, r⟩ := b1.items ok h1
    obtain ⟨w, h5, h6⟩ := atI_rel r h3
    have fin := k w H (ok.add h6).sim
    rcases hh with hh | hh
    · exact .inl ⟨a, vs, i, w, rfl, rfl, .inl (.inl hh), h5, fin⟩
    · exact .inr ⟨a, vs, i, w, rfl, rfl, hh, h5, fin⟩
  · cases e
/-- a part of a row -/
def cutD (xs : List D) (lo hi : Option Int) : List D := (xs.drop (HT.sIx xs.length 0 lo)).take (HT.sIx xs.length xs.length hi - HT.sIx xs.length 0 lo)
theorem RpL.drop {F m} : ∀ {n : Nat} {vs : List V} {xs : List D}, RpL C F m vs xs → RpL C F m (vs.drop n) (xs.drop n)
  | 0, _, _, h => h
  | _ + 1, _, _, .nil => .nil
  | n + 1, _, _, .cons _ t => RpL.drop (n := n) t
theorem RpL.take {F m} : ∀ {n : Nat} {vs : List V} {xs : List D}, RpL C F m vs xs → RpL C F m (vs.take n) (xs.take n)
  | 0, _, _, _ => .nil
  | _ + 1, _, _, .nil => .nil
  | n + 1, _, _, .cons h t => .cons h (RpL.take (n := n) t)
theorem RpL.cut {F m} {vs : List V} {xs : List D} (r : RpL C F m vs xs) (lo hi : Option Int) : RpL C F m (cutV vs lo hi) (cutD xs lo hi) := by
  unfold cutV cutD
  rw [r.len]
  exact r.drop.take
def fCut (S : List Ob) (x : D) (lo hi : Option Int) : Option GV := match x with
  | .tuple xs => some (.d (.tuple (cutD xs lo hi)))
  | .dict [(.dict [], .list xs)] => some (.fl (cutD xs lo hi))
  | x => (lisOf S x).map fun xs => .fl (cutD xs lo hi)
def rSlM (K : PySem.W.Frag) : V → Option Int → Option Int → Hp → VK → Prop := fun x lo hi H Q => rSlL K x lo hi H Q ∨ rSlA K x lo hi H Q
theorem sl_M : SlR X (rSlM X.K) := sl_list.or sl_tupA
theorem cut_whole {xs : List D} {lo hi : Option Int} (h : HT.sIx xs.length 0 lo = 0 ∧ HT.sIx xs.length xs.length hi = xs.length) : cutD xs lo hi = xs := by
  unfold cutD
  rw [h.1, h.2, List.drop_zero, Nat.sub_zero, List.take_length]
theorem ok_cut {F m S τ H} {v : V} {x : D} {lo hi : Option Int} {g : GV} {Q : VK} (ok : Ok C F m S τ H) (b : Rb C F m H v x) (e : fCut S x lo hi = some g) (k : ∀ w H', Sim C S ((w, g) :: τ) H' → Q w H') : rSlM C.K v lo hi H Q := by
  unfold fCut at e
  split at e
  · cases e
    obtain ⟨a, vs, rfl, h1, r⟩ := b.tup ok.sub
    refine .inr ⟨a, vs, rfl, h1, fun z => ?_, fun _ p hp => k _ _ (ok.newTup (r.cut lo hi) hp)⟩
    rw [r.len] at z
    rw [cut_whole z] at k
    exact k _ _ (b.simTup ok)
  · cases e
    obtain ⟨a, vs, rfl, h1, r⟩ := b.far ok.sub
    exact .inl ⟨a, vs, rfl, h1, fun p hp => k _ _ (ok.newLst (r.cut lo hi) hp)⟩
  · obtain ⟨xs, h1, h2⟩ := Option.map_eq_some_iff.mp e
    subst h2
    obtain ⟨a, vs, rfl, hh, r⟩ := b.lisOf ok h1
    exact .inl ⟨a, vs, rfl, .inl (.inl hh), fun p hp => k _ _ (ok.newLst (r.cut lo hi) hp)⟩
end
end Mi

set_option Elab.async false
set_option linter.all false
set_option maxRecDepth 100000
set_option maxHeartbeats 4000000
/-! MD: rows of arguments, displays, calls of one's own defs, built-ins. -/
namespace Mi
open PySem PySem.Spec PyProof.Rows L2 PySem.W PySem.SeqAt

/-! ### rows -/
def aNil : M (List D) := fun t => .ok [] t
def aCons (c : M GV) (r : M (List D)) : M (List D) := fun t => (vl c t).bind fun x t1 => (r t1).bind fun xs t2 => .ok (x :: xs) t2
def aStar (a : Opd) (r : M (List D)) : M (List D) := fun t => (a.first t).bind fun x t1 => match a.late x t1 with
  | some y => (match itemsOf t1.S y with
    | some ys => (r t1).bind fun xs t2 => .ok (ys ++ xs) t2
    | none => .bad)
  | none => .bad
def isStar : Expr → Bool
  | .Starred _ _ => true
  | _ => false
theorem starEach_no {e : Expr} {es : List Expr} {env : Env} (h : isStar e = false) : starEach (e :: es) env = (false, eval e env) :: starEach es env := by
  cases e <;> first | rfl | cases h
theorem backTo_no : ∀ {es : List Expr} {env : Env} {pos : Pos}, (es.all fun e => !isStar e) = true → (backTo pos (starEach es env)).any (·.1) = false
  | [], _, _, _ => rfl
  | e :: es, env, pos, h => by
    rw [List.all_cons, Bool.and_eq_true] at h
    rw [starEach_no (by simpa using h.1)]
    show (false || (backTo pos (starEach es env)).any (·.1)) = false
    rw [backTo_no h.2]; rfl
theorem Sim.zipTail {C : Cn} {S : List Ob} {τ τρ : List (V × GV)} {H : Hp} {us : List V} {ys : List D} (h : Sim C S (us.zip (ys.map GV.d) ++ (τρ ++ τ)) H) : Sim C S (τρ ++ (us.zip (ys.map GV.d) ++ τ)) H :=
  h.perm (by rw [← List.append_assoc, ← List.append_assoc]; exact List.perm_append_comm.append_right τ)
section
variable {X : Cx} {C : Cn}
theorem snda_nil : SndA X C aNil [] := fun σ ρ S τρ τ H Q sl hs h => ua_of pa_nil (h [] H τρ sl rfl hs)
theorem snda_cons {c : M GV} {r : M (List D)} {e : Expr} {es : List Expr} (hs : isStar e = false) (he : Snd X C c e) (hr : SndA X C r es) : SndA X C (aCons c r) (e :: es) := fun σ ρ S τρ τ H Q sl hsim h => by
  refine ua_of (pa_cons pe_u pa_u (starEach_no hs)) ?_
  refine he.vl sl hsim (R.post_imp (R.post_bind.mp h) fun x t k v H1 τρ1 sl1 hs1 => ?_)
  refine hr σ t.ρ t.S τρ1 ((v, .d x) :: τ) H1 _ sl1 hs1.back (R.post_imp (R.post_bind.mp k) fun xs t2 k2 vs H2 τρ2 sl2 hl hs2 => ?_)
  refine k2 (v :: vs) H2 τρ2 sl2 (by simp [hl]) ?_
  have hs3 : Sim C t2.S ((vs.zip (xs.map GV.d) ++ τρ2) ++ (v, GV.d x) :: τ) H2 := by rw [List.append_assoc]; exact hs2
  have := hs3.front
  rw [List.append_assoc] at this
  exact this
theorem snda_star {a : Opd} {r : M (List D)} {e : Expr} {es : List Expr} {p : Pos} (hK : C.K = X.K) (he : SndO X C a e) (hr : SndA X C r es) : SndA X C (aStar a r) (.Starred e p :: es) := fun σ ρ S τρ τ H Q sl hsim h => by
  refine ua_of (StX.pa_star pe_u pa_u) ?_
  refine he.go sl hsim (R.post_imp (R.post_bind.mp h) fun x t k v H1 τρ1 τ1 sl1 hs1 late => ?_)
  split at k
  · rename_i y ey
    split at k
    · rename_i ys ei
      obtain ⟨F, m, ok⟩ := hs1
      have b := late t H1 τρ1 [] y F m sl1 ok ey
      obtain ⟨p, us, rfl, hh, rr⟩ := b.items ok ei
      refine ⟨p, us, rfl, by rw [← hK]; exact hh.elim (fun z => .inr (.inl (.inl z))) .inl, ?_⟩
      have hs2 : Sim C t.S (τρ1 ++ (us.zip (ys.map GV.d) ++ (τ1 ++ τ))) H1 := Sim.zipTail (ok.adds rr).sim
      refine hr σ t.ρ t.S τρ1 _ H1 _ sl1 hs2 (R.post_imp (R.post_bind.mp k) fun xs t2 k2 vs H2 τρ2 sl2 hl hs3 => ?_)
      refine k2 (us ++ vs) H2 τρ2 sl2 (by rw [List.length_append, List.length_append, hl, rr.len]) ?_
      have e1 : (us ++ vs).zip ((ys ++ xs).map GV.d) = us.zip (ys.map GV.d) ++ vs.zip (xs.map GV.d) := by
        rw [List.map_append]
        exact List.zip_append (by rw [List.length_map]; exact rr.len)
      rw [e1]
      refine hs3.re (fun q hq => ?_) fun a => ?_
      · simp only [List.mem_append] at hq ⊢
        rcases hq with (h | h) | (h | h)
        · exact .inr (.inr (.inl h))
        · exact .inl h
        · exact .inr (.inl h)
        · exact .inr (.inr (.inr (.inr h)))
      · simp only [own_app, List.count_append]
        omega
    · exact k.elim
  · exact k.elim

/-! ### displays -/
def cTup (as : M (List D)) : M GV := fun t => (as t).bind fun xs t1 => if xs.length ≤ lim then .ok (.d (.tuple xs)) t1 else .bad
def cLst (as : M (List D)) : M GV := fun t => (as t).bind fun xs t1 => if xs.length ≤ lim then .ok (.fl xs) t1 else .bad
theorem snd_tup {as : M (List D)} {es : List Expr} {k : Nat} {pos : Pos} (h : SndA X C as es) : Snd X C (cTup as) (.Tuple es k pos) := fun σ ρ S τρ τ H Q sl hsim q => by
  refine ue_of (pe_tup pa_u) ?_
  refine h σ ρ S τρ τ H _ sl hsim (R.post_imp (R.post_bind.mp q) fun xs t k vs H1 τρ1 sl1 hl hs1 => ?_)
  split at k
  · rename_i hz
    exact ⟨by rw [hl]; exact lim_line hz, fun p hp => k _ _ τρ1 sl1 (Sim.newTup hs1 hl hp)⟩
  · exact k.elim
theorem snd_lst {as : M (List D)} {es : List Expr} {pos : Pos} (h : SndA X C as es) : Snd X C (cLst as) (.List es pos) := fun σ ρ S τρ τ H Q sl hsim q => by
  refine ue_of (pe_lst pa_u) ?_
  refine h σ ρ S τρ τ H _ sl hsim (R.post_imp (R.post_bind.mp q) fun xs t k vs H1 τρ1 sl1 hl hs1 => ?_)
  split at k
  · rename_i hz
    exact ⟨by rw [hl]; exact lim_line hz, fun p hp => k _ _ τρ1 sl1 (Sim.newLst hs1 hl hp)⟩
  · exact k.elim
end

/-! ### calls of one's own defs -/
inductive Rc where
  | ok (g : GV) (S : List Ob) | exc (x : Str) (xs : List D) (S : List Ob) | bad
def Rc.post (r : Rc) (k : GV → List Ob → Prop) : Prop := match r with
  | .ok g S => k g S
  | .exc _ _ _ => False
  | .bad => False
theorem Rc.post_imp {r : Rc} {k k' : GV → List Ob → Prop} (h : r.post k) (i : ∀ g S, k g S → k' g S) : r.post k' := by
  cases r with
  | ok a t => exact i a t h
  | exc => exact h
  | bad => exact h
abbrev Calls := Nat → List D → List Ob → Rc
def cCall (call : Calls) (i : Nat) (as : M (List D)) : M GV := fun t => (as t).bind fun xs t1 => match call i xs t1.S with
  | .ok g S => .ok g ⟨t1.ρ, S⟩
  | .exc x xs S => .exc x xs ⟨t1.ρ, S⟩
  | .bad => .bad
/-- the promise of def i -/
def spF (C : Cn) (call : Calls) (i : Nat) (n : Nat) : Sp := fun vs H Q _ => ∃ S τ xs, vs.length = n ∧ xs.length = n ∧ Sim C S (vs.zip (xs.map GV.d) ++ τ) H ∧
  (call i xs S).post fun g S' => ∀ v H', Sim C S' ((v, g) :: τ) H' → Q v H'
/-- def i keeps its promise, and may be called by its name or address -/
structure Def (P : Program) (w : World) (K : PySem.W.Frag) (mg : Str → Option Value) (base : Heap) (C : Cn) (call : Calls) (k i n : Nat) (a : Addr) (fd : FuncData) (ps : List Str) : Prop where
  at_ : C.fa i = some a
  ok : FnOk P w K mg base CX0 k a fd ps (spF C call i n)
  kp : PySem.W.keepIn K (.ref a) = true
  b : Binds K fd ps []
  ar : ∀ xs S, (∃ g S', call i xs S = .ok g S') → xs.length = n
theorem Def.len {P w K mg base C call k i n a fd ps} (d : Def P w K mg base C call k i n a fd ps) {xs : List D} {S : List Ob} {q : GV → List Ob → Prop} (h : (call i xs S).post q) : xs.length = n := by
  cases e : call i xs S with
  | ok g S' => exact d.ar xs S ⟨g, S', e⟩
  | exc => rw [e] at h; exact h.elim
  | bad => rw [e] at h; exact h.elim
theorem call_post {call : Calls} {i : Nat} {xs : List D} {t : T} {q : GV → T → Prop} (h : R.post (match call i xs t.S with
  | .ok g S => R.ok g ⟨t.ρ, S⟩
  | .exc x xs S => .exc x xs ⟨t.ρ, S⟩
  | .bad => .bad) q) : (call i xs t.S).post fun g S' => q g ⟨t.ρ, S'⟩ := by
  cases e : call i xs t.S with
  | ok g S' => rw [e] at h; exact h
  | exc => rw [e] at h; exact h.elim
  | bad => rw [e] at h; exact h.elim
section
variable {X : Cx} {C : Cn} {call : Calls}
theorem snd_call0 {k i n : Nat} {a : Addr} {fd : FuncData} {ps : List Str} {x : Str} {p pos : Pos} (d : Def X.prog X.w X.K X.mg X.base C call k i n a fd ps) (hr : Room k X.A) (hg : Gl X x) (hm : X.mg x = some (.ref a))
    (hdb : (x == ("__debug__" : Str)) = false) : Snd X C (cCall call i aNil) (.Call (.Name x p) [] [] pos) := fun σ ρ S τρ τ H Q sl hsim q => by
  refine ue_of (pe_call0 d.ok hr hg hm d.kp d.b .nil pass0 hdb) ?_
  have k' := call_post (t := ⟨ρ, S⟩) (xs := []) q
  have hn := d.len k'
  show spF C call i n [] H Q E0
  exact ⟨S, τρ ++ τ, [], hn, hn, hsim, Rc.post_imp k' fun g S' k v H' h => k v H' τρ sl h⟩
theorem snd_call {k i n : Nat} {a : Addr} {fd : FuncData} {ps : List Str} {as : M (List D)} {x : Str} {p pos : Pos} {e : Expr} {es : List Expr} (d : Def X.prog X.w X.K X.mg X.base C call k i n a fd ps) (hr : Room k X.A) (hg : Gl X x) (hm : X.mg x = some (.ref a))
    (hdb : (x == ("__debug__" : Str)) = false) (hst : ((e :: es).all fun e => !isStar e) = true) (ha : SndA X C as (e :: es)) : Snd X C (cCall call i as) (.Call (.Name x p) (e :: es) [] pos) := fun σ ρ S τρ τ H Q sl hsim q => by
  rw [List.all_cons, Bool.and_eq_true] at hst
  refine ue_of (pe_call d.ok hr hg hm d.kp d.b .nil pass0 pa_u hdb (starEach_no (by simpa using hst.1)) (backTo_no hst.2)) ?_
  show UA X (e :: es) σ H fun vs H1 => spF C call i n (vs ++ []) H1 Q E0
  refine ha σ ρ S τρ τ H _ sl hsim (R.post_imp (R.post_bind.mp q) fun xs t k vs H1 τρ1 sl1 hl hs1 => ?_)
  have k' := call_post (t := t) k
  have hn := d.len k'
  rw [List.append_nil]
  exact ⟨t.S, τρ1 ++ τ, xs, hl.trans hn, hn, hs1, Rc.post_imp k' fun g S' k v H' h => k v H' τρ1 sl1 h⟩
end
end Mi

set_option Elab.async false
set_option linter.all false
set_option maxRecDepth 100000
set_option maxHeartbeats 4000000
/-! ME: tests, and, or, not, conditional expressions, chains, built-ins of one argument. -/
namespace Mi
open PySem PySem.Spec PyProof.Rows L2 PySem.W PySem.SeqAt

/-! ### truth -/
def truD (S : List Ob) : D → Option Bool
  | .none => some false
  | .bool b => some b
  | .int i => some (i != 0)
  | .str y => if y.length ≤ lim then some ((y.length : Int) != 0) else none
  | x => (itemsOf S x).map fun xs => !xs.isEmpty
theorem RpL.empty {C F m} : ∀ {vs : List V} {xs : List D}, RpL C F m vs xs → vs.isEmpty = xs.isEmpty
  | _, _, .nil => rfl
  | _, _, .cons _ _ => rfl
section
variable {X : Cx} {C : Cn}
theorem truD_ok {F m S τ H} {v : V} {x : D} {b : Bool} (ok : Ok C F m S τ H) (r : Rb C F m H v x) (h : truD S x = some b) : TruV C.K v H b := by
  unfold truD at h
  split at h
  · cases h; cases r.non; rfl
  · cases h; cases r.bl; rfl
  · cases h; cases r.int; rfl
  · split at h
    · rename_i hl
      cases h; cases r.str
      exact ⟨lim_line hl, rfl⟩
    · cases h
  · obtain ⟨xs, h1, h2⟩ := Option.map_eq_some_iff.mp h
    subst h2
    obtain ⟨a, vs, rfl, hh, rr⟩ := r.items ok h1
    rcases hh with hh | hh
    · exact .inl ⟨vs, .inl (.inl hh), by rw [rr.empty]⟩
    · exact .inr (.inl ⟨vs, hh, by rw [rr.empty]⟩)
def tTru (a : Opd) : M Bool := fun t => (a.first t).bind fun x t1 => match a.late x t1 with
  | some y => (match truD t1.S y with
    | some b => .ok b t1
    | none => .bad)
  | none => .bad
def isPlainT : Expr → Bool
  | .UnaryOp .Not _ _ => false
  | .BoolOp _ _ _ => false
  | .IfExp _ _ _ _ => false
  | .Compare _ _ _ _ => false
  | _ => true
theorem isTrue_of {e : Expr} {env : Env} (h : isPlainT e = true) : ∀ whole, isTrue e env whole = (do let v ← whole; standAt e.pos; holding [v] (truthy v)) := by
  intro whole
  cases e with
  | UnaryOp op x pos => cases op <;> first | rfl | cases h
  | BoolOp => cases h
  | IfExp => cases h
  | Compare => cases h
  | _ => rfl
theorem go_tru {a : Opd} {ea : Expr} (ha : SndO X C a ea) {σ : L2.St} {ρ : List (Option GV)} {S : List Ob} {τρ τ : List (V × GV)} {H : Hp} {Q : V → Bool → Hp → Prop} (sl : Slots σ ρ τρ) (hs : Sim C S (τρ ++ τ) H)
    (q : (tTru a ⟨ρ, S⟩).post fun b t => ∀ v H' τρ', Slots σ t.ρ τρ' → Sim C t.S (τρ' ++ τ) H' → Q v b H') : UE X ea σ H fun v H1 => ∃ k, TruV C.K v H1 k ∧ Q v k H1 := by
  refine ha.go sl hs (R.post_imp (R.post_bind.mp q) fun x t k v H1 τρ1 τ1 sl1 hs1 late => ?_)
  split at k
  · rename_i y ey
    split at k
    · rename_i b eb
      obtain ⟨F, m, ok⟩ := hs1
      refine ⟨b, truD_ok ok (late t H1 τρ1 [] y F m sl1 ok ey) eb, k v H1 τρ1 sl1 ?_⟩
      exact ok.sim.re (fun q hq => by
        simp only [List.mem_append] at hq ⊢
        rcases hq with h | h
        · exact .inl h
        · exact .inr (.inr h)) fun a => by simp only [own_app, List.count_append]; omega
    · exact k.elim
  · exact k.elim
theorem sndT_tru {a : Opd} {e : Expr} (hK : C.K = X.K) (ha : SndO X C a e) (hp : isPlainT e = true) : SndT X C (tTru a) e := fun σ ρ S τρ τ H Q sl hs q =>
  ut_of (pt_truth pe_u (isTrue_of hp)) (by
    rw [← hK]
    exact go_tru (Q := fun _ b H' => Q b H') ha sl hs (R.post_imp q fun b t k v H' τρ' sl' hs' => k H' τρ' sl' hs'))

/-! ### not, and, or -/
def tNotM (c : M Bool) : M Bool := fun t => (c t).bind fun b t1 => .ok (!b) t1
def tAndM : List (M Bool) → M Bool
  | [] => bad
  | [c] => c
  | c :: cs => fun t => (c t).bind fun b t1 => if b = true then tAndM cs t1 else .ok false t1
def tOrM : List (M Bool) → M Bool
  | [] => bad
  | [c] => c
  | c :: cs => fun t => (c t).bind fun b t1 => if b = true then .ok true t1 else tOrM cs t1
theorem sndT_not {c : M Bool} {e : Expr} {pos : Pos} (h : SndT X C c e) : SndT X C (tNotM c) (.UnaryOp .Not e pos) := fun σ ρ S τρ τ H Q sl hs q =>
  ut_of (pt_not pt_u) (h σ ρ S τρ τ H _ sl hs (R.post_bind.mp q))
/-- a test whatever its whole is -/
def UW (X : Cx) (e : Expr) : TT := fun σ H Q => ∀ whole pins s, Inv X pins σ H s → wpAny (model X.prog X.w) X.A (isTrue e X.env whole) (TP X pins σ Q) X.xe s
theorem pw_u {e : Expr} : PW X e (UW X e) := ⟨fun whole pins s σ H Q I h => h whole pins s I⟩
theorem uw_of {e : Expr} {t : TT} {σ : L2.St} {H : Hp} {Q : Bool → Hp → Prop} (h : PW X e t) (q : t σ H Q) : UW X e σ H Q := fun whole pins s I => h.run whole pins s σ H Q I q
def SndW (X : Cx) (C : Cn) (c : M Bool) (e : Expr) : Prop := ∀ (σ : L2.St) (ρ : List (Option GV)) (S : List Ob) (τρ τ : List (V × GV)) (H : Hp) (Q : Bool → Hp → Prop), Slots σ ρ τρ → Sim C S (τρ ++ τ) H →
  (c ⟨ρ, S⟩).post (fun b t => ∀ H' τρ', Slots σ t.ρ τρ' → Sim C t.S (τρ' ++ τ) H' → Q b H') → UW X e σ H Q
theorem SndW.t {c : M Bool} {e : Expr} (h : SndW X C c e) : SndT X C c e := fun σ ρ S τρ τ H Q sl hs q => ut_of pw_u.pt (h σ ρ S τρ τ H Q sl hs q)
inductive EachT (X : Cx) (C : Cn) : List (M Bool) → List Expr → Prop
  | nil : EachT X C [] []
  | cons {c : M Bool} {e : Expr} {cs : List (M Bool)} {es : List Expr} : SndT X C c e → EachT X C cs es → EachT X C (c :: cs) (e :: es)
theorem sndW_and {pos : Pos} : ∀ {cs : List (M Bool)} {es : List Expr}, EachT X C cs es → SndW X C (tAndM cs) (.BoolOp .And es pos)
  | _, _, .nil => fun σ ρ S τρ τ H Q sl hs q => q.elim
  | _, _, .cons h .nil => fun σ ρ S τρ τ H Q sl hs q => uw_of (pw_and1 pt_u) (h σ ρ S τρ τ H Q sl hs q)
  | _, _, .cons h (.cons h2 t) => fun σ ρ S τρ τ H Q sl hs q => uw_of (pw_and pt_u pw_u) (h σ ρ S τρ τ H _ sl hs (R.post_imp (R.post_bind.mp q) fun b t1 k H1 τρ1 sl1 hs1 => by
    cases b with
    | true => exact sndW_and (.cons h2 t) σ t1.ρ t1.S τρ1 τ H1 Q sl1 hs1 k
    | false => exact k H1 τρ1 sl1 hs1))
theorem sndW_or {pos : Pos} : ∀ {cs : List (M Bool)} {es : List Expr}, EachT X C cs es → SndW X C (tOrM cs) (.BoolOp .Or es pos)
  | _, _, .nil => fun σ ρ S τρ τ H Q sl hs q => q.elim
  | _, _, .cons h .nil => fun σ ρ S τρ τ H Q sl hs q => uw_of (pw_or1 pt_u) (h σ ρ S τρ τ H Q sl hs q)
  | _, _, .cons h (.cons h2 t) => fun σ ρ S τρ τ H Q sl hs q => uw_of (pw_or pt_u pw_u) (h σ ρ S τρ τ H _ sl hs (R.post_imp (R.post_bind.mp q) fun b t1 k H1 τρ1 sl1 hs1 => by
    cases b with
    | true => exact k H1 τρ1 sl1 hs1
    | false => exact sndW_or (.cons h2 t) σ t1.ρ t1.S τρ1 τ H1 Q sl1 hs1 k))
/-- as values: all but the last one are asked for their truth -/
def tru1 (c : M GV) : M (D × Bool) := fun t => (vl c t).bind fun x t1 => match truD t1.S x with
  | some b => .ok (x, b) t1
  | none => .bad
def cAndM : List (M GV) → M GV
  | [] => bad
  | [c] => c
  | c :: cs => fun t => (tru1 c t).bind fun x t1 => if x.2 = true then cAndM cs t1 else .ok (.d x.1) t1
def cOrM : List (M GV) → M GV
  | [] => bad
  | [c] => c
  | c :: cs => fun t => (tru1 c t).bind fun x t1 => if x.2 = true then .ok (.d x.1) t1 else cOrM cs t1
inductive EachE (X : Cx) (C : Cn) : List (M GV) → List Expr → Prop
  | nil : EachE X C [] []
  | cons {c : M GV} {e : Expr} {cs : List (M GV)} {es : List Expr} : Snd X C c e → EachE X C cs es → EachE X C (c :: cs) (e :: es)
theorem go_tru1 {c : M GV} {e : Expr} (h : Snd X C c e) {σ : L2.St} {ρ : List (Option GV)} {S : List Ob} {τρ τ : List (V × GV)} {H : Hp} {Q : V → Bool → Hp → Prop} (sl : Slots σ ρ τρ) (hs : Sim C S (τρ ++ τ) H)
    (q : (tru1 c ⟨ρ, S⟩).post fun x t => ∀ v H' τρ', Slots σ t.ρ τρ' → Sim C t.S ((v, .d x.1) :: (τρ' ++ τ)) H' → Q v x.2 H') : UE X e σ H fun v H1 => ∃ k, TruV C.K v H1 k ∧ Q v k H1 := by
  refine h.vl sl hs (R.post_imp (R.post_bind.mp q) fun x t k v H1 τρ1 sl1 hs1 => ?_)
  split at k
  · rename_i b eb
    obtain ⟨F, m, ok⟩ := hs1
    exact ⟨b, truD_ok ok (ok.rb (g := .d x) (List.mem_cons_self ..)) eb, k v H1 τρ1 sl1 ok.sim⟩
  · exact k.elim
theorem snd_and {pos : Pos} (hK : C.K = X.K) : ∀ {cs : List (M GV)} {es : List Expr}, EachE X C cs es → Snd X C (cAndM cs) (.BoolOp .And es pos)
  | _, _, .nil => fun σ ρ S τρ τ H Q sl hs q => q.elim
  | _, _, .cons h .nil => fun σ ρ S τρ τ H Q sl hs q => ue_of (pe_one pe_u) (h σ ρ S τρ τ H Q sl hs q)
  | _, _, .cons h (.cons h2 t) => fun σ ρ S τρ τ H Q sl hs q => ue_of (pe_andT pe_u pe_u) (by
    show UE X _ σ H fun x H1 => ∃ k, TruV X.K x H1 k ∧ _
    rw [← hK]
    refine go_tru1 h sl hs (R.post_imp (R.post_bind.mp q) fun x t1 k v H1 τρ1 sl1 hs1 => ?_)
    obtain ⟨x, b⟩ := x
    cases b with
    | true => exact snd_and hK (.cons h2 t) σ t1.ρ t1.S τρ1 τ H1 Q sl1 hs1.tail k
    | false => exact k v H1 τρ1 sl1 hs1)
theorem snd_or {pos : Pos} (hK : C.K = X.K) : ∀ {cs : List (M GV)} {es : List Expr}, EachE X C cs es → Snd X C (cOrM cs) (.BoolOp .Or es pos)
  | _, _, .nil => fun σ ρ S τρ τ H Q sl hs q => q.elim
  | _, _, .cons h .nil => fun σ ρ S τρ τ H Q sl hs q => ue_of (pe_one pe_u) (h σ ρ S τρ τ H Q sl hs q)
  | _, _, .cons h (.cons h2 t) => fun σ ρ S τρ τ H Q sl hs q => ue_of (pe_orT pe_u pe_u) (by
    show UE X _ σ H fun x H1 => ∃ k, TruV X.K x H1 k ∧ _
    rw [← hK]
    refine go_tru1 h sl hs (R.post_imp (R.post_bind.mp q) fun x t1 k v H1 τρ1 sl1 hs1 => ?_)
    obtain ⟨x, b⟩ := x
    cases b with
    | true => exact k v H1 τρ1 sl1 hs1
    | false => exact snd_or hK (.cons h2 t) σ t1.ρ t1.S τρ1 τ H1 Q sl1 hs1.tail k)
def cNotM (a : Opd) : M GV := fun t => (tTru a t).bind fun b t1 => .ok (.d (.bool (!b))) t1
theorem snd_not {a : Opd} {e : Expr} {pos : Pos} (hK : C.K = X.K) (h : SndO X C a e) : Snd X C (cNotM a) (.UnaryOp .Not e pos) := fun σ ρ S τρ τ H Q sl hs q => ue_of (pe_notT pe_u) (by
  show UE X _ σ H fun x H1 => ∃ k, TruV X.K x H1 k ∧ _
  rw [← hK]
  exact go_tru (Q := fun _ b H' => Q (.bl (!b)) H') h sl hs (R.post_imp (R.post_bind.mp q) fun b t k v H' τρ' sl' hs' => k _ H' τρ' sl' (hs'.bl _)))
def cIf (c : M Bool) (a b : M GV) : M GV := fun t => (c t).bind fun k t1 => if k = true then a t1 else b t1
theorem snd_if {c : M Bool} {a b : M GV} {ec ea eb : Expr} {pos : Pos} (hc : SndT X C c ec) (ha : Snd X C a ea) (hb : Snd X C b eb) : Snd X C (cIf c a b) (.IfExp ec ea eb pos) := fun σ ρ S τρ τ H Q sl hs q =>
  ue_of (pe_ifExp pt_u pe_u pe_u) (hc σ ρ S τρ τ H _ sl hs (R.post_imp (R.post_bind.mp q) fun k t1 kk H1 τρ1 sl1 hs1 => by
    cases k with
    | true => exact ha σ t1.ρ t1.S τρ1 τ H1 Q sl1 hs1 kk
    | false => exact hb σ t1.ρ t1.S τρ1 τ H1 Q sl1 hs1 kk))

/-! ### built-ins of one argument -/
theorem pe_b1 {e : Expr} {x : Str} {p pos : Pos} {id : String} {r : List V → Hp → VK → Prop} (hc : CallR X (.builtin id) r) (hg : Gl X x) (hm : X.mg x = none) (hv : bootBuiltins x = some (.builtin id)) (hn : x ≠ "__name__") (hdb : (x == ("__debug__" : Str)) = false) (hs : isStar e = false) :
    PE X (.Call (.Name x p) [e] [] pos) (fun σ H Q => UE X e σ H fun v H1 => r [v] H1 Q) := pe_callB hc hg hm hv (pa_cons pe_u pa_nil (starEach_no hs)) hn hdb (starEach_no hs) rfl
theorem pe_t1 {e : Expr} {x : Str} {p pos : Pos} {T : String} {r : List V → Hp → VK → Prop} (hc : CallR X (.type T) r) (hg : Gl X x) (hm : X.mg x = none) (hv : bootBuiltins x = some (.type T)) (hn : x ≠ "__name__") (hdb : (x == ("__debug__" : Str)) = false) (hs : isStar e = false) :
    PE X (.Call (.Name x p) [e] [] pos) (fun σ H Q => UE X e σ H fun v H1 => r [v] H1 Q) := pe_callTy hc hg hm hv (pa_cons pe_u pa_nil (starEach_no hs)) hn hdb (starEach_no hs) rfl
def fAbs (_ : List Ob) : D → Option GV
  | .int i => some (.d (.int (if i < 0 then -i else i)))
  | _ => none
theorem ok_abs : Op1Ok C fAbs (fun x H Q => ∃ i, [x] = [V.int i] ∧ Q (.int (if i < 0 then -i else i)) H) := fun F m S τ H v x g Q ok b e k => by
  unfold fAbs at e
  split at e
  · cases e; cases b.int
    exact ⟨_, rfl, k _ H (ok.sim.int _)⟩
  · cases e
def fInt1 (_ : List Ob) : D → Option GV
  | .int i => some (.d (.int i))
  | _ => none
theorem ok_int1 : Op1Ok C fInt1 (fun x H Q => (∃ i, [x] = [V.int i] ∧ Q (.int i) H) ∨ ∃ k, [x] = [V.bl k] ∧ Q (.int (if k then 1 else 0)) H) := fun F m S τ H v x g Q ok b e k => by
  unfold fInt1 at e
  split at e
  · cases e; cases b.int
    exact .inl ⟨_, rfl, k _ H (ok.sim.int _)⟩
  · cases e
def fLen (S : List Ob) (x : D) : Option GV := (itemsOf S x).map fun xs => .d (.int xs.length)
theorem ok_len : Op1Ok C fLen (fun x H Q => ∃ p ys, [x] = [V.ref p] ∧ (SqL C.K H p ys ∨ SqT C.K H p ys) ∧ Q (.int ys.length) H) := fun F m S τ H v x g Q ok b e k => by
  unfold fLen at e
  obtain ⟨xs, h1, h2⟩ := Option.map_eq_some_iff.mp e
  subst h2
  obtain ⟨a, vs, rfl, hh, rr⟩ := b.items ok h1
  refine ⟨a, vs, rfl, hh.elim (fun z => .inl (.inl (.inl z))) .inr, ?_⟩
  rw [rr.len]
  exact k _ H (ok.sim.int _)
def fTuple (S : List Ob) : D → Option GV
  | .tuple xs => some (.d (.tuple xs))
  | x => (lisOf S x).map fun xs => .d (.tuple xs)
theorem ok_tuple : Op1Ok C fTuple (fun x H Q => ∃ p ys, [x] = [V.ref p] ∧ ((SqL C.K H p ys ∧ ∀ l, H l = none → Q (.ref l) (upd H l (.tup ys))) ∨ (SqT C.K H p ys ∧ Q (.ref p) H))) := fun F m S τ H v x g Q ok b e k => by
  unfold fTuple at e
  split at e
  · cases e
    obtain ⟨a, vs, rfl, h1, rr⟩ := b.tup ok.sub
    exact ⟨a, vs, rfl, .inr ⟨h1, k _ _ (b.simTup ok)⟩⟩
  · obtain ⟨xs, h1, h2⟩ := Option.map_eq_some_iff.mp e
    subst h2
    obtain ⟨a, vs, rfl, hh, rr⟩ := b.lisOf ok h1
    exact ⟨a, vs, rfl, .inl ⟨.inl (.inl hh), fun p hp => k _ _ (ok.newTup rr hp)⟩⟩
def fList (S : List Ob) (x : D) : Option GV := (itemsOf S x).map fun xs => .fl xs
theorem ok_list : Op1Ok C fList (fun x H Q => ∃ p ys, [x] = [V.ref p] ∧ (SqL C.K H p ys ∨ SqT C.K H p ys) ∧ ∀ l, H l = none → Q (.ref l) (upd H l (.lst ys))) := fun F m S τ H v x g Q ok b e k => by
  unfold fList at e
  obtain ⟨xs, h1, h2⟩ := Option.map_eq_some_iff.mp e
  subst h2
  obtain ⟨a, vs, rfl, hh, rr⟩ := b.items ok h1
  exact ⟨a, vs, rfl, hh.elim (fun z => .inl (.inl (.inl z))) .inr, fun p hp => k _ _ (ok.newLst rr hp)⟩
/-- a row of ints -/
def intsOf : List D → Option (List Int)
  | [] => some []
  | .int i :: xs => (intsOf xs).map (i :: ·)
  | _ => none
theorem ints_rel {F m} : ∀ {xs : List D} {vs : List V} {ns : List Int}, RpL C F m vs xs → intsOf xs = some ns → vs = ns.map V.int
  | [], _, _, r, h => by cases r; cases h; rfl
  | x :: xs, _, ns, r, h => by
    cases r with
    | cons r t =>
      unfold intsOf at h
      split at h
      · rename_i q; cases q
      · rename_i i ys q
        cases q
        obtain ⟨ms, h1, h2⟩ := Option.map_eq_some_iff.mp h
        subst h2
        rw [ints_rel t h1]
        cases r
        rfl
      · cases h
def fSum (S : List Ob) (x : D) : Option GV := (lisOf S x).bind fun xs => (intsOf xs).map fun ns => .d (.int ns.sum)
theorem ok_sum : Op1Ok C fSum (fun x H Q => rSum C.K [x] H Q) := fun F m S τ H v x g Q ok b e k => by
  unfold fSum at e
  obtain ⟨xs, h1, h2⟩ := Option.bind_eq_some_iff.mp e
  obtain ⟨ns, h3, h4⟩ := Option.map_eq_some_iff.mp h2
  subst h4
  obtain ⟨a, vs, rfl, hh, rr⟩ := b.lisOf ok h1
  obtain rfl := ints_rel rr h3
  exact ⟨a, ns, rfl, .inl (.inl hh), k _ H (ok.sim.int _)⟩
end
end Mi

set_option Elab.async false
set_option linter.all false
set_option maxRecDepth 100000
set_option maxHeartbeats 4000000
/-! MF: statements: what is stored, sequences, if, return, own lists that change. -/
namespace Mi
open PySem PySem.Spec PyProof.Rows L2 PySem.W PySem.SeqAt

inductive Fl where
  | nx (t : T) | rt (g : GV) (t : T) | bk (t : T) | ct (t : T) | exc (x : Str) (xs : List D) (t : T) | bad
structure Wish where
  nx : T → Prop
  rt : GV → T → Prop
  bk : T → Prop
  ct : T → Prop
def Fl.post (f : Fl) (W : Wish) : Prop := match f with
  | .nx t => W.nx t
  | .rt g t => W.rt g t
  | .bk t => W.bk t
  | .ct t => W.ct t
  | .exc _ _ _ => False
  | .bad => False
abbrev St' := T → Fl
/-- the outcome of a reckoning, then on -/
def R.fl {α : Type} (r : R α) (k : α → T → Fl) : Fl := match r with
  | .ok a t => k a t
  | .exc x xs t => .exc x xs t
  | .bad => .bad
@[simp] theorem R.fl_ok {α : Type} (a : α) (t : T) (k : α → T → Fl) : (R.ok a t).fl k = k a t := rfl
theorem R.post_fl {α : Type} {r : R α} {k : α → T → Fl} {W : Wish} (h : (r.fl k).post W) : r.post fun a t => (k a t).post W := by
  cases r with
  | ok a t => exact h
  | exc => exact h.elim
  | bad => exact h.elim
def Fl.seq (f : Fl) (k : T → Fl) : Fl := match f with
  | .nx t => k t
  | f => f
@[simp] theorem Fl.seq_nx (t : T) (k : T → Fl) : (Fl.nx t).seq k = k t := rfl
@[simp] theorem Fl.seq_rt (g : GV) (t : T) (k : T → Fl) : (Fl.rt g t).seq k = .rt g t := rfl
@[simp] theorem Fl.seq_bk (t : T) (k : T → Fl) : (Fl.bk t).seq k = .bk t := rfl
@[simp] theorem Fl.seq_ct (t : T) (k : T → Fl) : (Fl.ct t).seq k = .ct t := rfl
theorem Fl.post_seq {f : Fl} {k : T → Fl} {W : Wish} (h : (f.seq k).post W) : f.post { W with nx := fun t => (k t).post W } := by
  cases f <;> exact h
theorem Fl.post_imp {f : Fl} {W W' : Wish} (h : f.post W) (h1 : ∀ t, W.nx t → W'.nx t) (h2 : ∀ g t, W.rt g t → W'.rt g t) (h3 : ∀ t, W.bk t → W'.bk t) (h4 : ∀ t, W.ct t → W'.ct t) : f.post W' := by
  cases f with
  | nx t => exact h1 t h
  | rt g t => exact h2 g t h
  | bk t => exact h3 t h
  | ct t => exact h4 t h
  | exc => exact h
  | bad => exact h
/-- what the model is asked behind a statement -/
def wish (C : Cn) (τ : List (V × GV)) (D : Ends) : Wish where
  nx t := ∀ σ' H' τρ', Slots σ' t.ρ τρ' → Sim C t.S (τρ' ++ τ) H' → D.nx σ' H'
  rt g t := ∀ v H', Sim C t.S ((v, g) :: τ) H' → D.rt v H'
  bk t := ∀ σ' H' τρ', Slots σ' t.ρ τρ' → Sim C t.S (τρ' ++ τ) H' → D.bk σ' H'
  ct t := ∀ σ' H' τρ', Slots σ' t.ρ τρ' → Sim C t.S (τρ' ++ τ) H' → D.ct σ' H'
section
variable (X : Cx) (C : Cn)
def SndS (c : St') (st : Stmt) : Prop := ∀ (σ : L2.St) (ρ : List (Option GV)) (S : List Ob) (τρ τ : List (V × GV)) (H : Hp) (D : Ends), Slots σ ρ τρ → Sim C S (τρ ++ τ) H →
  (c ⟨ρ, S⟩).post (wish C τ D) → US X st D σ H
def SndB (c : St') (st : List Stmt) : Prop := ∀ (σ : L2.St) (ρ : List (Option GV)) (S : List Ob) (τρ τ : List (V × GV)) (H : Hp) (D : Ends), Slots σ ρ τρ → Sim C S (τρ ++ τ) H →
  (c ⟨ρ, S⟩).post (wish C τ D) → USs X st D σ H
/-- a target: v is put into it -/
def SndG (b : GV → M Unit) (tg : Expr) : Prop := ∀ (σ : L2.St) (ρ : List (Option GV)) (S : List Ob) (τρ τ : List (V × GV)) (H : Hp) (v : V) (g : GV) (Q : L2.St → Hp → Prop), Slots σ ρ τρ → Sim C S ((v, g) :: (τρ ++ τ)) H →
  (b g ⟨ρ, S⟩).post (fun _ t => ∀ σ' H' τρ', Slots σ' t.ρ τρ' → Sim C t.S (τρ' ++ τ) H' → Q σ' H') → UG X tg v σ H Q
end

/-! ### blocks -/
def sNil : St' := fun t => .nx t
def sSeq (a b : St') : St' := fun t => (a t).seq b
def sBad : St' := fun _ => .bad
section
variable {X : Cx} {C : Cn}
theorem snds_bad {st : Stmt} : SndS X C sBad st := fun _ _ _ _ _ _ _ _ _ h => h.elim
theorem sndb_nil : SndB X C sNil [] := fun σ ρ S τρ τ H D sl hs q => uss_of pss_nil (q σ H τρ sl hs)
theorem sndb_cons {a b : St'} {st : Stmt} {rest : List Stmt} (ha : SndS X C a st) (hb : SndB X C b rest) : SndB X C (sSeq a b) (st :: rest) := fun σ ρ S τρ τ H D sl hs q => by
  refine uss_of (pss_cons ps_u pss_u) (ha σ ρ S τρ τ H _ sl hs ?_)
  exact Fl.post_imp (Fl.post_seq q) (fun t k σ' H' τρ' sl' hs' => hb σ' t.ρ t.S τρ' τ H' D sl' hs' k) (fun _ _ z => z) (fun _ z => z) (fun _ z => z)
theorem sndb_one {a : St'} {st : Stmt} (ha : SndS X C a st) : SndB X C a [st] := fun σ ρ S τρ τ H D sl hs q => uss_of (pss_one ps_u) (ha σ ρ S τρ τ H D sl hs q)
def sRet (c : M GV) : St' := fun t => (c t).fl fun g t1 => .rt g t1
theorem snds_ret {c : M GV} {e : Expr} {pos : Pos} (h : Snd X C c e) : SndS X C (sRet c) (.Return (some e) pos) := fun σ ρ S τρ τ H D sl hs q =>
  us_of (ps_ret pe_u) (h σ ρ S τρ τ H _ sl hs (R.post_imp (R.post_fl q) fun g t k v H' τρ' sl' hs' => k v H' (Sim.perm hs' (by
    refine List.Perm.refl _) |> fun z => z.re (fun x hx => by
      rcases List.mem_cons.mp hx with h | h
      · exact List.mem_cons.mpr (.inl h)
      · exact List.mem_cons_of_mem _ (List.mem_append_right _ h)) fun a => by
      rw [show (v, g) :: τ = [(v, g)] ++ τ from rfl, show (v, g) :: (τρ' ++ τ) = [(v, g)] ++ (τρ' ++ τ) from rfl]
      simp only [own_app, List.count_append]; omega)))
/-- an own list is handed back -/
def sRetV (i : Nat) : St' := fun t => match t.ρ[i]? with
  | some (some g) => .rt g t
  | _ => .bad
theorem snds_retV {i : Nat} {e : Expr} {pos : Pos} (h : PE X e (tVar i)) : SndS X C (sRetV i) (.Return (some e) pos) := fun σ ρ S τρ τ H D sl hs q => by
  have q' : (match ρ[i]? with
    | some (some g) => Fl.rt g ⟨ρ, S⟩
    | _ => .bad).post (wish C τ D) := q
  split at q'
  · rename_i g e
    obtain ⟨v, τ0, h1, h2, h3, h4⟩ := sl.out e
    refine us_of (ps_ret h) ⟨v, h1, q' v H (Sim.re (hs.perm (h2.symm.append_right τ)) (fun x hx => ?_) fun a => ?_)⟩
    · rcases List.mem_cons.mp hx with h | h
      · exact List.mem_cons.mpr (.inl h)
      · exact List.mem_cons_of_mem _ (List.mem_append_right _ h)
    · rw [show (v, g) :: τ = [(v, g)] ++ τ from rfl, show (v, g) :: τ0 ++ τ = [(v, g)] ++ (τ0 ++ τ) from rfl]
      simp only [own_app, List.count_append]; omega
  · exact q'.elim
def sRetN : St' := fun t => .rt (.d .none) t
theorem snds_retN {pos : Pos} : SndS X C sRetN (.Return none pos) := fun σ ρ S τρ τ H D sl hs q => us_of ps_retN (q .non H hs.right.non)
theorem snds_pass {pos : Pos} : SndS X C sNil (.Pass pos) := fun σ ρ S τρ τ H D sl hs q => us_of ps_pass (q σ H τρ sl hs)
def sBrk : St' := fun t => .bk t
def sCnt : St' := fun t => .ct t
theorem snds_break {pos : Pos} : SndS X C sBrk (.Break pos) := fun σ ρ S τρ τ H D sl hs q => us_of ps_break (q σ H τρ sl hs)
theorem snds_continue {pos : Pos} : SndS X C sCnt (.Continue pos) := fun σ ρ S τρ τ H D sl hs q => us_of ps_continue (q σ H τρ sl hs)
def sIf (c : M Bool) (a b : St') : St' := fun t => (c t).fl fun k t1 => if k = true then a t1 else b t1
theorem snds_if {c : M Bool} {a b : St'} {ec : Expr} {ea eb : List Stmt} {pos : Pos} (hc : SndT X C c ec) (ha : SndB X C a ea) (hb : SndB X C b eb) : SndS X C (sIf c a b) (.If ec ea eb pos) := fun σ ρ S τρ τ H D sl hs q =>
  us_of (ps_if pt_u pss_u pss_u) (hc σ ρ S τρ τ H _ sl hs (R.post_imp (R.post_fl q) fun k t1 kk H1 τρ1 sl1 hs1 => by
    cases k with
    | true => exact ha σ t1.ρ t1.S τρ1 τ H1 D sl1 hs1 kk
    | false => exact hb σ t1.ρ t1.S τρ1 τ H1 D sl1 hs1 kk))
/-- an expression alone -/
def sDrop (c : M GV) : St' := fun t => (c t).fl fun _ t1 => .nx t1
def isComp : Expr → Bool
  | .ListComp _ _ _ _ => true
  | .SetComp _ _ _ _ => true
  | .DictComp _ _ _ _ _ => true
  | _ => false
theorem swapsWith_no {e : Expr} {tg : Option Expr} {l : Nat} {env : Env} (h : isComp e = false) : swapsWith e tg l env = pure false := by
  cases e <;> first | rfl | cases h
theorem snds_drop {c : M GV} {e : Expr} {pos : Pos} (hc : isComp e = false) (h : Snd X C c e) : SndS X C (sDrop c) (.Expr e pos) := fun σ ρ S τρ τ H D sl hs q =>
  us_of (ps_expr pe_u (swapsWith_no hc)) (h σ ρ S τρ τ H _ sl hs (R.post_imp (R.post_fl q) fun g t k v H' τρ' sl' hs' => k σ H' τρ' sl' hs'.tail))

/-! ### stores -/
inductive Kind where
  | val | own | share
def keepAs (k : Kind) (g : GV) (S : List Ob) : GV × List Ob := match k, g with
  | .own, g => (g, S)
  | .share, .ob s xs => (.d (dRef S.length), S ++ [.ob s xs])
  | _, g => (.d (toD g), S)
theorem Sim.keepAs {S τ H} {v : V} {g : GV} (k : Kind) (h : Sim C S ((v, g) :: τ) H) : Sim C (keepAs k g S).2 ((v, (keepAs k g S).1) :: τ) H := by
  unfold Mi.keepAs
  split
  · exact h
  · exact h.shareOb
  · exact h.toD
def gNm (i : Nat) (k : Kind) (g : GV) : M Unit := fun t => if i < t.ρ.length then .ok () ⟨t.ρ.set i (some (keepAs k g t.S).1), (keepAs k g t.S).2⟩ else .bad
/-- a slot is set -/
theorem put_slot {σ : L2.St} {ρ : List (Option GV)} {S : List Ob} {τρ τ : List (V × GV)} {H : Hp} {v : V} {g : GV} {i : Nat} (sl : Slots σ ρ τρ) (hs : Sim C S ((v, g) :: (τρ ++ τ)) H) (hi : i < ρ.length) :
    ∃ τ', Slots (σ.set i (some v)) (ρ.set i (some g)) τ' ∧ Sim C S (τ' ++ τ) H := by
  obtain ⟨τ0, τ', ⟨τd, h1⟩, h2, h3⟩ := sl.put (g := g) (v := v) hi
  refine ⟨τ', h3, Sim.perm (τ := (v, g) :: (τ0 ++ τ)) ?_ (by exact h2.append_right τ)⟩
  refine hs.re (fun x hx => ?_) fun a => ?_
  · rcases List.mem_cons.mp hx with h | h
    · exact List.mem_cons.mpr (.inl h)
    · refine List.mem_cons_of_mem _ ?_
      rcases List.mem_append.mp h with h | h
      · exact List.mem_append_left _ (h1.mem_iff.mpr (List.mem_append_right _ h))
      · exact List.mem_append_right _ h
  · have e : (own τρ).count a = (own (τd ++ τ0)).count a := (h1.filterMap flA).count_eq a
    rw [own_app, List.count_append] at e
    rw [show (v, g) :: (τ0 ++ τ) = [(v, g)] ++ (τ0 ++ τ) from rfl, show (v, g) :: (τρ ++ τ) = [(v, g)] ++ (τρ ++ τ) from rfl]
    simp only [own_app, List.count_append]; omega
theorem sndg_name {i : Nat} {k : Kind} {x : Str} {pos : Pos} (hN : X.N.Nodup) (hi : X.N[i]? = some x) (hx : Loc X.env.scope x) (hf : X.fn x = true ∨ X.env.scope.names.lookup x = some .local) : SndG X C (gNm i k) (.Name x pos) := fun σ ρ S τρ τ H v g Q sl hs q => by
  have q' : (if i < ρ.length then R.ok () ⟨ρ.set i (some (keepAs k g S).1), (keepAs k g S).2⟩ else R.bad).post _ := q
  split at q'
  · rename_i hl
    obtain ⟨τ', h1, h2⟩ := put_slot sl (hs.keepAs k) hl
    exact ug_of (pg_name hN hi hx hf) (q' (σ.set i (some v)) H τ' h1 h2)
  · exact q'.elim
/-- targets one by one, of the items of a tuple -/
def gsNil : List D → M Unit
  | [] => fun t => .ok () t
  | _ => bad
def gsCons (b : GV → M Unit) (r : List D → M Unit) : List D → M Unit
  | x :: xs => fun t => (b (.d x) t).bind fun _ t1 => r xs t1
  | [] => bad
def UGs (X : Cx) (ts : List Expr) : TGs := fun vs σ H Q => ∀ pins s us, Inv X pins σ H s → Vals vs us → wpAny (model X.prog X.w) X.A (assignInOrder ((assignEach ts X.env).map (·.2)) us) (fun _ s' => ∃ σ' H', Inv X pins σ' H' s' ∧ Q σ' H') X.xe s
theorem pgs_u {ts : List Expr} : PGs X ts (UGs X ts) := ⟨fun pins s σ H vs us Q I r h => h pins s us I r⟩
theorem ugs_of {ts : List Expr} {t : TGs} {vs : List V} {σ : L2.St} {H : Hp} {Q : L2.St → Hp → Prop} (h : PGs X ts t) (q : t vs σ H Q) : UGs X ts vs σ H Q := fun pins s us I r => h.run pins s σ H vs us Q I r q
def SndGs (X : Cx) (C : Cn) (b : List D → M Unit) (ts : List Expr) : Prop := ∀ (σ : L2.St) (ρ : List (Option GV)) (S : List Ob) (τρ τ : List (V × GV)) (H : Hp) (vs : List V) (xs : List D) (Q : L2.St → Hp → Prop), Slots σ ρ τρ → vs.length = xs.length → Sim C S (τρ ++ (vs.zip (xs.map GV.d) ++ τ)) H →
  (b xs ⟨ρ, S⟩).post (fun _ t => ∀ σ' H' τρ', Slots σ' t.ρ τρ' → Sim C t.S (τρ' ++ τ) H' → Q σ' H') → UGs X ts vs σ H Q
def plainTg : Expr → Bool
  | .Starred _ _ => false
  | _ => true
theorem assignEach_no {e : Expr} {es : List Expr} {env : Env} (h : plainTg e = true) : assignEach (e :: es) env = (false, assign e env) :: assignEach es env := by
  cases e <;> first | rfl | cases h
theorem sndgs_nil : SndGs X C gsNil [] := fun σ ρ S τρ τ H vs xs Q sl hl hs q => by
  cases xs with
  | nil =>
    cases vs with
    | nil => exact ugs_of pgs_nil ⟨rfl, q σ H τρ sl hs⟩
    | cons _ _ => simp at hl
  | cons _ _ => exact q.elim
theorem sndgs_cons {b : GV → M Unit} {r : List D → M Unit} {e : Expr} {es : List Expr} (hp : plainTg e = true) (hb : SndG X C b e) (hr : SndGs X C r es) : SndGs X C (gsCons b r) (e :: es) := fun σ ρ S τρ τ H vs xs Q sl hl hs q => by
  cases xs with
  | nil => exact q.elim
  | cons x xs =>
    cases vs with
    | nil => simp at hl
    | cons v vs =>
      refine ugs_of (pgs_cons pg_u pgs_u (by rw [assignEach_no hp]; rfl)) ⟨v, vs, rfl, ?_⟩
      have hs1 : Sim C S ((v, GV.d x) :: (τρ ++ (vs.zip (xs.map GV.d) ++ τ))) H := Sim.front hs
      refine hb σ ρ S τρ _ H v (.d x) _ sl hs1 (R.post_imp (R.post_bind.mp q) fun _ t1 k σ1 H1 τρ1 sl1 hs2 => ?_)
      exact hr σ1 t1.ρ t1.S τρ1 τ H1 vs xs Q sl1 (by simpa using hl) hs2 k
/-- what is unpacked -/
def rowD : D → Option (List D)
  | .tuple xs => some xs
  | .list xs => some xs
  | _ => none
def gTp (n : Nat) (b : List D → M Unit) (g : GV) : M Unit := match rowD (toD g) with
  | some xs => if xs.length = n then b xs else bad
  | none => bad
/-- a, b, .. = a tuple or a list -/
def gTL (K : PySem.W.Frag) (n : Nat) (t : TGs) : TG := fun v σ H Q => gTup K n t v σ H Q ∨ gLst K n t v σ H Q
theorem pg_tl {es : List Expr} {k : Nat} {t : TGs} {n : Nat} {pos : Pos} (hc : X.calm = true) (h : PGs X es t) (hn : (assignEach es X.env).length = n) (hst : (assignEach es X.env).findIdx? (·.1) = none) : PG X (.Tuple es k pos) (gTL X.K n t) :=
  ⟨fun pins s σ H v u Q I r q => q.elim ((pg_tup hc h hn hst).run pins s σ H v u Q I r) ((pg_lst hc h hn hst).run pins s σ H v u Q I r)⟩
/-- the row's items are held -/
theorem row_inv {S : List Ob} {τ : List (V × GV)} {H : Hp} {v : V} {x : D} {xs : List D} (h : Sim C S ((v, .d x) :: τ) H) (e : rowD x = some xs) : ∃ a vs, v = .ref a ∧ (SqT C.K H a vs ∨ SqL C.K H a vs) ∧ vs.length = xs.length ∧ Sim C S (τ ++ vs.zip (xs.map GV.d)) H := by
  have fin : ∀ {vs : List V}, Sim C S (vs.zip (xs.map GV.d) ++ (v, .d x) :: τ) H → Sim C S (τ ++ vs.zip (xs.map GV.d)) H := fun {vs} z => z.re (fun q hq => by
    simp only [List.mem_append, List.mem_cons] at hq ⊢
    rcases hq with h | h
    · exact .inr (.inr h)
    · exact .inl h) fun a => by
    simp only [own_app, own_d, own_zip, List.append_nil, List.nil_append]; exact Nat.le_refl _
  unfold rowD at e
  split at e
  · cases e
    obtain ⟨a, vs, e1, h1, h2, h3⟩ := h.tup_inv
    exact ⟨a, vs, e1, .inl h1, h2, fin h3⟩
  · cases e
    obtain ⟨a, vs, e1, h1, h2, h3⟩ := h.lst_inv
    exact ⟨a, vs, e1, .inr (.inl (.inl h1)), h2, fin h3⟩
  · cases e
theorem findStar_no : ∀ {es : List Expr} {env : Env}, (es.all plainTg) = true → (assignEach es env).findIdx? (·.1) = none
  | [], _, _ => rfl
  | e :: es, env, h => by
    rw [List.all_cons, Bool.and_eq_true] at h
    rw [assignEach_no h.1, List.findIdx?_cons]
    simp only [Bool.false_eq_true, if_false]
    rw [findStar_no h.2]; rfl
theorem assignEach_len : ∀ {es : List Expr} {env : Env}, (es.all plainTg) = true → (assignEach es env).length = es.length
  | [], _, _ => rfl
  | e :: es, env, h => by
    rw [List.all_cons, Bool.and_eq_true] at h
    rw [assignEach_no h.1, List.length_cons, List.length_cons, assignEach_len h.2]
theorem gTp_post {n : Nat} {b : List D → M Unit} {g : GV} {t : T} {k : Unit → T → Prop} (q : (gTp n b g t).post k) : ∃ xs, rowD (toD g) = some xs ∧ xs.length = n ∧ (b xs t).post k := by
  unfold gTp at q
  cases ex : rowD (toD g) with
  | none => rw [ex] at q; exact q.elim
  | some xs =>
    rw [ex] at q
    by_cases hl : xs.length = n
    · simp only [hl, if_true] at q
      exact ⟨xs, rfl, hl, q⟩
    · simp only [hl, if_false] at q
      exact q.elim
theorem sndg_tup {b : List D → M Unit} {es : List Expr} {k : Nat} {pos : Pos} (hK : C.K = X.K) (hc : X.calm = true) (hp : (es.all plainTg) = true) (h : SndGs X C b es) : SndG X C (gTp es.length b) (.Tuple es k pos) := fun σ ρ S τρ τ H v g Q sl hs q => by
  obtain ⟨xs, ex, hl, q⟩ := gTp_post q
  refine ug_of (pg_tl hc pgs_u (assignEach_len hp) (findStar_no hp)) ?_
  obtain ⟨a, vs, rfl, h1, h2, h3⟩ := row_inv hs.toD ex
  have fin : UGs X es vs σ H Q := by
    refine h σ ρ S τρ τ H vs xs Q sl h2 ?_ q
    refine h3.re (fun x hx => ?_) fun a => ?_
    · simp only [List.mem_append] at hx ⊢
      rcases hx with h | h | h
      · exact .inl (.inl h)
      · exact .inr h
      · exact .inl (.inr h)
    · simp only [own_app, own_zip, List.count_append, List.nil_append, List.append_nil, List.count_nil]; omega
  rw [← hK]
  rcases h1 with h1 | h1
  · exact .inl ⟨a, vs, rfl, h1, by rw [h2]; exact hl, fin⟩
  · exact .inr ⟨a, vs, rfl, h1, by rw [h2]; exact hl, fin⟩

/-! ### assignments -/
def sAsg (b : GV → M Unit) (c : M GV) : St' := fun t => (c t).fl fun g t1 => (b g t1).fl fun _ t2 => .nx t2
theorem go_asg {b : GV → M Unit} {c : M GV} {e tg : Expr} (hc : Snd X C c e) (hb : SndG X C b tg) {σ : L2.St} {ρ : List (Option GV)} {S : List Ob} {τρ τ : List (V × GV)} {H : Hp} {D : Ends} (sl : Slots σ ρ τρ) (hs : Sim C S (τρ ++ τ) H)
    (q : (sAsg b c ⟨ρ, S⟩).post (wish C τ D)) : tAsg (UE X e) (UG X tg) D σ H := by
  refine hc σ ρ S τρ τ H _ sl hs (R.post_imp (R.post_fl q) fun g t k v H1 τρ1 sl1 hs1 => ?_)
  exact hb σ t.ρ t.S τρ1 τ H1 v g _ sl1 hs1 (R.post_imp (R.post_fl k) fun _ t2 k2 => k2)
/-- not two or three names stored from a display -/
def noSwap (tg e : Expr) : Bool := match tg, e with
  | .Tuple ts _ _, .Tuple vs _ _ => !(ts.length == 2 || ts.length == 3) || vs.length != ts.length || ts.any fun t => match t with
    | .Name _ _ => false
    | _ => true
  | .List _ _, _ => false
  | _, _ => true
theorem snds_asg {b : GV → M Unit} {c : M GV} {e tg : Expr} {pos : Pos} (hp : plainTg tg = true) (hcm : isComp e = false) (hw : swappedStores [tg] e X.env = pure none) (hc : Snd X C c e) (hb : SndG X C b tg) : SndS X C (sAsg b c) (.Assign [tg] e pos) := fun σ ρ S τρ τ H D sl hs q =>
  us_of (ps_asg pe_u pg_u (swapsWith_no hcm) hw (by rw [assignEach_no hp]; rfl)) (go_asg hc hb sl hs q)
end
end Mi

set_option Elab.async false
set_option linter.all false
set_option maxRecDepth 100000
set_option maxHeartbeats 4000000
/-! MG: lists that change: append, extend, pop, places set; x op= e; two and three names stored at once. -/
namespace Mi
open PySem PySem.Spec PyProof.Rows L2 PySem.W PySem.SeqAt

/-- the number of a thing of the store -/
def refOf : D → Option Nat
  | .dict [(.dict [], .int n)] => if 0 ≤ n then some n.toNat else none
  | _ => none
theorem refOf_eq {x : D} {n : Nat} (h : refOf x = some n) : x = dRef n := by
  unfold refOf at h
  split at h
  · rename_i k
    split at h
    · rename_i h0
      cases h
      have z : (k.toNat : Int) = k := Int.toNat_of_nonneg h0
      rw [show dRef k.toNat = .dict [(.dict [], .int k)] by rw [← z]; rfl]
    · cases h
  · cases h
/-- the list of a slot: its own, or one of the store -/
def lstAt (t : T) (i : Nat) : Option (List D) := match t.ρ[i]? with
  | some (some (.ob .l xs)) => some xs
  | some (some (.d x)) => (refOf x).bind fun n => match t.S[n]? with
    | some (.ob .l xs) => some xs
    | _ => none
  | _ => none
def putAt (t : T) (i : Nat) (xs : List D) : T := match t.ρ[i]? with
  | some (some (.ob .l _)) => ⟨t.ρ.set i (some (.fl xs)), t.S⟩
  | some (some (.d x)) => (match refOf x with
    | some n => ⟨t.ρ, t.S.set n (.lst xs)⟩
    | none => t)
  | _ => t
section
variable {X : Cx} {C : Cn}
theorem lst_at {σ : L2.St} {t : T} {τρ τ : List (V × GV)} {H : Hp} {i : Nat} {xs : List D} (sl : Slots σ t.ρ τρ) (hs : Sim C t.S (τρ ++ τ) H) (h : lstAt t i = some xs) :
    ∃ a vs, σ[i]? = some (some (.ref a)) ∧ H a = some (.lst vs) ∧ vs.length = xs.length ∧ Sim C t.S (τρ ++ (vs.zip (xs.map GV.d) ++ τ)) H := by
  obtain ⟨F, m, ok⟩ := hs
  unfold lstAt at h
  split at h
  · rename_i ys e
    cases h
    obtain ⟨v, h1, h2⟩ := sl.get e
    obtain ⟨a, vs, rfl, h3, h4⟩ := (ok.rb (List.mem_append_left _ h2)).lst ok.sub
    exact ⟨a, vs, h1, h3, h4.len, Sim.zipTail (ok.adds h4).sim⟩
  · rename_i x e
    obtain ⟨n, hn, h'⟩ := Option.bind_eq_some_iff.mp h
    clear h
    cases refOf_eq hn
    split at h'
    · rename_i ys q
      cases h'
      obtain ⟨v, h1, h2⟩ := sl.get e
      obtain ⟨a, vs, rfl, h3, h4⟩ := (ok.rb (List.mem_append_left _ h2)).ref ok q
      exact ⟨a, vs, h1, h3, h4.len, Sim.zipTail (ok.adds h4).sim⟩
    · cases h'
  · cases h
theorem put_at {σ : L2.St} {t : T} {τρ τ : List (V × GV)} {H : Hp} {i : Nat} {xs xs' : List D} {vs' : List V} {a : Addr} (sl : Slots σ t.ρ τρ) (ha : σ[i]? = some (some (.ref a))) (h : lstAt t i = some xs) (hl : vs'.length = xs'.length)
    (hs : Sim C t.S (τρ ++ (vs'.zip (xs'.map GV.d) ++ τ)) H) : ∃ τρ', Slots σ (putAt t i xs').ρ τρ' ∧ Sim C (putAt t i xs').S (τρ' ++ τ) (upd H a (.lst vs')) := by
  unfold lstAt at h
  unfold putAt
  split at h
  · rename_i ys e
    cases h
    simp only [e]
    obtain ⟨v, τ0, h1, h2, h3, h4⟩ := sl.out e
    rw [ha] at h1; cases h1
    obtain ⟨τ', q1, q2⟩ := h4 (.ref a) (.fl xs')
    have hσ : σ.set i (some (.ref a)) = σ := by
      obtain ⟨hi, ei⟩ := List.getElem?_eq_some_iff.mp ha
      rw [← ei]; exact List.set_getElem_self hi
    rw [hσ] at q2
    refine ⟨τ', q2, ?_⟩
    have z : Sim C t.S ((V.ref a, GV.fl xs) :: (vs'.zip (xs'.map GV.d) ++ (τ0 ++ τ))) H := hs.perm (by
      refine List.Perm.trans ?_ (h2.symm.append_right _)
      show ((V.ref a, GV.fl xs) :: (vs'.zip (xs'.map GV.d) ++ (τ0 ++ τ))).Perm ((V.ref a, GV.fl xs) :: (τ0 ++ (vs'.zip (xs'.map GV.d) ++ τ)))
      refine List.Perm.cons _ ?_
      rw [← List.append_assoc, ← List.append_assoc]
      exact List.perm_append_comm.append_right τ)
    exact (Sim.setOwn z hl).perm (q1.append_right τ)
  · rename_i x e
    obtain ⟨n, hn, h'⟩ := Option.bind_eq_some_iff.mp h
    clear h
    cases refOf_eq hn
    simp only [e, hn]
    split at h'
    · rename_i ys q
      cases h'
      obtain ⟨v, h1, h2⟩ := sl.get e
      rw [ha] at h1; cases h1
      refine ⟨τρ, sl, ?_⟩
      have z : Sim C t.S (vs'.zip (xs'.map GV.d) ++ (τρ ++ τ)) H := hs.perm (by
        rw [← List.append_assoc, ← List.append_assoc]
        exact List.perm_append_comm.append_right τ)
      exact Sim.setSt (z.dup (List.mem_append_right _ (List.mem_append_left _ h2))) q hl
    · cases h'
  · cases h

/-! ### methods of a list at a slot -/
/-- x.m(e): f gives what comes back, and the list behind -/
def cMt1 (i : Nat) (f : List Ob → List D → D → Option (D × List D)) (c : M GV) : M GV := fun t => if (lstAt t i).isSome then (vl c t).bind fun x t1 => match lstAt t1 i with
  | some xs => (match f t1.S xs x with
    | some (y, ys) => .ok (.d y) (putAt t1 i ys)
    | none => .bad)
  | none => .bad
  else .bad
def cMt0 (i : Nat) (f : List D → Option (D × List D)) : M GV := fun t => match lstAt t i with
  | some xs => (match f xs with
    | some (y, ys) => .ok (.d y) (putAt t i ys)
    | none => .bad)
  | none => .bad
/-- what a method's rule gives -/
def Mt1Ok (C : Cn) (f : List Ob → List D → D → Option (D × List D)) (r : V → List V → Hp → VK → Prop) : Prop := ∀ F m S τ H a u vs xs x y ys (Q : VK), Ok C F m S τ H → H a = some (.lst vs) → RpL C F m vs xs → Rp C F m u x → f S xs x = some (y, ys) →
  (∀ us w, us.length = ys.length → RpL C F m us ys → Rp C F m w y → Q w (upd H a (.lst us))) → r (.ref a) [u] H Q
def Mt0Ok (C : Cn) (f : List D → Option (D × List D)) (r : V → List V → Hp → VK → Prop) : Prop := ∀ F m S τ H a vs xs y ys (Q : VK), Ok C F m S τ H → H a = some (.lst vs) → RpL C F m vs xs → f xs = some (y, ys) →
  (∀ us w, us.length = ys.length → RpL C F m us ys → Rp C F m w y → Q w (upd H a (.lst us))) → r (.ref a) [] H Q
theorem fin_mt {σ : L2.St} {t1 : T} {τρ τ : List (V × GV)} {H1 : Hp} {i : Nat} {a : Addr} {xs ys : List D} {y : D} {us : List V} {w : V} {F m} {Q : VK} (sl1 : Slots σ t1.ρ τρ) (ha : σ[i]? = some (some (.ref a))) (hx : lstAt t1 i = some xs)
    (ok : Ok C F m t1.S (τρ ++ τ) H1) (hl : us.length = ys.length) (ru : RpL C F m us ys) (rw' : Rp C F m w y)
    (k : ∀ v H' τρ', Slots σ (putAt t1 i ys).ρ τρ' → Sim C (putAt t1 i ys).S ((v, .d y) :: (τρ' ++ τ)) H' → Q v H') : Q w (upd H1 a (.lst us)) := by
  have z : Sim C t1.S (τρ ++ (us.zip (ys.map GV.d) ++ ((w, .d y) :: τ))) H1 := by
    have z0 := ((ok.add rw').adds ru).sim
    refine z0.re (fun x hx => ?_) fun a => ?_
    · simp only [List.mem_append, List.mem_cons] at hx ⊢
      rcases hx with h | h | h | h
      · exact .inr (.inr (.inl h))
      · exact .inl h
      · exact .inr (.inl h)
      · exact .inr (.inr (.inr h))
    · simp only [own_app, own_d, List.count_append]; omega
  obtain ⟨τρ', s1, s2⟩ := put_at sl1 ha hx hl z
  exact k w _ τρ' s1 s2.front
theorem go_mt1 {i : Nat} {f : List Ob → List D → D → Option (D × List D)} {r : V → List V → Hp → VK → Prop} {c : M GV} {e : Expr} (hf : Mt1Ok C f r) (hc : Snd X C c e) {σ : L2.St} {ρ : List (Option GV)} {S : List Ob} {τρ τ : List (V × GV)} {H : Hp} {Q : VK} (sl : Slots σ ρ τρ) (hs : Sim C S (τρ ++ τ) H)
    (q : (cMt1 i f c ⟨ρ, S⟩).post fun g t => ∀ v H' τρ', Slots σ t.ρ τρ' → Sim C t.S ((v, g) :: (τρ' ++ τ)) H' → Q v H') : tBM C.K "list" r (tVar i) (tCons (UE X e) tNil) σ H Q := by
  unfold cMt1 at q
  split at q
  · rename_i hso
    obtain ⟨xs0, hx0⟩ := Option.isSome_iff_exists.mp hso
    obtain ⟨a, vs, h1, h2, h3, h4⟩ := lst_at sl hs hx0
    refine ⟨.ref a, h1, .inl ⟨rfl, vs, .inl (.inl h2)⟩, ?_⟩
    refine hc.vl sl hs (R.post_imp (R.post_bind.mp q) fun x t1 k u H1 τρ1 sl1 hs1 => ?_)
    split at k
    · rename_i xs hx
      split at k
      · rename_i y ys ey
        obtain ⟨a', vs', h1', h2', h3', h4'⟩ := lst_at (τ := (u, .d x) :: τ) sl1 hs1.back hx
        rw [h1] at h1'; cases h1'
        obtain ⟨F, m, ok⟩ := h4'
        have r1 : RpL C F m vs' xs := ok.rows h3' fun q hq => List.mem_append_right _ (List.mem_append_left _ hq)
        have r2 : Rp C F m u x := ok.get (List.mem_append_right _ (List.mem_append_right _ (List.mem_cons_self ..)))
        refine hf F m t1.S _ H1 a u vs' xs x y ys Q ok h2' r1 r2 ey fun us w hl ru rw' => ?_
        have ok' : Ok C F m t1.S (τρ1 ++ τ) H1 := ok.re (fun x hx => by
          simp only [List.mem_append, List.mem_cons] at hx ⊢
          rcases hx with h | h
          · exact .inl h
          · exact .inr (.inr (.inr h))) fun a => by simp only [own_app, own_d, own_zip, List.count_append]; omega
        exact fin_mt sl1 h1 hx ok' hl ru rw' k
      · exact k.elim
    · exact k.elim
  · exact q.elim
theorem go_mt0 {i : Nat} {f : List D → Option (D × List D)} {r : V → List V → Hp → VK → Prop} (hf : Mt0Ok C f r) {σ : L2.St} {ρ : List (Option GV)} {S : List Ob} {τρ τ : List (V × GV)} {H : Hp} {Q : VK} (sl : Slots σ ρ τρ) (hs : Sim C S (τρ ++ τ) H)
    (q : (cMt0 i f ⟨ρ, S⟩).post fun g t => ∀ v H' τρ', Slots σ t.ρ τρ' → Sim C t.S ((v, g) :: (τρ' ++ τ)) H' → Q v H') : tBM0 C.K "list" r (tVar i) σ H Q := by
  unfold cMt0 at q
  split at q
  · rename_i xs hx
    split at q
    · rename_i y ys ey
      obtain ⟨a, vs, h1, h2, h3, h4⟩ := lst_at (t := ⟨ρ, S⟩) sl hs hx
      refine ⟨.ref a, h1, .inl ⟨rfl, vs, .inl (.inl h2)⟩, ?_⟩
      obtain ⟨F, m, ok⟩ := h4
      have r1 : RpL C F m vs xs := ok.rows h3 fun q hq => List.mem_append_right _ (List.mem_append_left _ hq)
      refine hf F m S _ H a vs xs y ys Q ok h2 r1 ey fun us w hl ru rw' => ?_
      have ok' : Ok C F m S (τρ ++ τ) H := ok.re (fun x hx => by
        simp only [List.mem_append] at hx ⊢
        rcases hx with h | h
        · exact .inl h
        · exact .inr (.inr h)) fun a => by simp only [own_app, own_zip, List.count_append]; omega
      exact fin_mt (t1 := ⟨ρ, S⟩) sl h1 hx ok' hl ru rw' q
    · exact q.elim
  · exact q.elim
def fAppend (_ : List Ob) (xs : List D) (x : D) : Option (D × List D) := if xs.length < lim then some (.none, xs ++ [x]) else none
theorem ok_append : Mt1Ok C fAppend rAppend := fun F m S τ H a u vs xs x y ys Q ok h r1 r2 e k => by
  unfold fAppend at e
  split at e
  · rename_i hl
    cases e
    exact ⟨a, vs, u, rfl, rfl, h, by rw [r1.len]; exact lim_lt hl, k (vs ++ [u]) .non (by simp [r1.len]) (r1.app (.cons r2 .nil)) .non⟩
  · cases e
def fExtend (S : List Ob) (xs : List D) (x : D) : Option (D × List D) := (lisOf S x).bind fun ys => if xs.length + ys.length ≤ lim then some (.none, xs ++ ys) else none
theorem ok_extend : Mt1Ok C fExtend rExtend := fun F m S τ H a u vs xs x y ys Q ok h r1 r2 e k => by
  unfold fExtend at e
  obtain ⟨zs, h1, h2⟩ := Option.bind_eq_some_iff.mp e
  split at h2
  · rename_i hl
    cases h2
    obtain ⟨b, us, rfl, h3, r3⟩ := Rb.lisOf (.inl r2) ok h1
    exact ⟨a, b, vs, us, rfl, rfl, h, h3, by rw [r1.len, r3.len]; exact lim_line hl, k (vs ++ us) .non (by simp [r1.len, r3.len]) (r1.app r3) .non⟩
  · cases h2
def fPop (xs : List D) : Option (D × List D) := (xs[xs.length - 1]?).map fun y => (y, xs.dropLast)
theorem RpL.dropLast {F m} : ∀ {vs : List V} {xs : List D}, RpL C F m vs xs → RpL C F m vs.dropLast xs.dropLast
  | _, _, .nil => .nil
  | _, _, .cons _ .nil => .nil
  | _, _, .cons h (.cons h2 t) => .cons h (RpL.dropLast (.cons h2 t))
theorem ok_pop : Mt0Ok C fPop rPop := fun F m S τ H a vs xs y ys Q ok h r1 e k => by
  unfold fPop at e
  obtain ⟨z, h1, h2⟩ := Option.map_eq_some_iff.mp e
  cases h2
  obtain ⟨v, h3, h4⟩ := r1.get' h1
  exact ⟨a, vs, v, rfl, rfl, h, by rw [r1.len]; exact h3, k vs.dropLast v (by simp [r1.len]) r1.dropLast h4⟩
/-- x[i] = e -/
def gSet (i : Nat) (c : M GV) (g : GV) : M Unit := fun t => if (lstAt t i).isSome then (vl c t).bind fun k t1 => match lstAt t1 i, k with
  | some xs, .int j => (match ixN xs.length j with
    | some n => .ok () (putAt t1 i (xs.set n (toD g)))
    | none => .bad)
  | _, _ => .bad
  else .bad
theorem RpL.set {F m} {v : V} {x : D} (r : Rp C F m v x) : ∀ {vs : List V} {xs : List D} (i : Nat), RpL C F m vs xs → RpL C F m (vs.set i v) (xs.set i x)
  | _, _, _, .nil => .nil
  | _, _, 0, .cons _ t => .cons r t
  | _, _, i + 1, .cons h t => .cons h (RpL.set r i t)
def isSlice : Expr → Bool
  | .Slice _ _ _ _ => true
  | _ => false
theorem assign_sub {o e : Expr} {pos : Pos} (h : isSlice e = false) : ∀ v, assign (.Subscript o e pos) X.env v = (do
      let ov ← holding [v] (eval o X.env)
      let iv ← holding [v, ov] (eval e X.env)
      standAt pos
      holding [v, ov, iv] (setItem ov iv v)
      release [v, ov, iv] []) := by
  intro v
  cases e <;> first | rfl | cases h
theorem sndg_set {i : Nat} {c : M GV} {o e : Expr} {pos : Pos} (ho : PE X o (tVar i)) (hc : Snd X C c e) (hsl : isSlice e = false) : SndG X C (gSet i c) (.Subscript o e pos) := fun σ ρ S τρ τ H v g Q sl hs q => by
  refine ug_of (pg_sub ho pe_u set_list (assign_sub hsl)) ?_
  have hs0 := (hs.toD).back
  unfold gSet at q
  split at q
  · rename_i hso
    obtain ⟨xs0, hx0⟩ := Option.isSome_iff_exists.mp hso
    obtain ⟨a, vs, h1, h2, h3, h4⟩ := lst_at (t := ⟨ρ, S⟩) sl hs0 hx0
    refine ⟨.ref a, h1, ?_⟩
    refine hc.vl sl hs0 (R.post_imp (R.post_bind.mp q) fun x t1 k u H1 τρ1 sl1 hs1 => ?_)
    split at k
    · rename_i _ _ xs j hx
      split at k
      · rename_i n hn
        cases hs1.int_inv
        obtain ⟨a', vs', h1', h2', h3', h4'⟩ := lst_at sl1 hs1.tail hx
        rw [h1] at h1'; cases h1'
        refine ⟨a, vs', j, n, rfl, rfl, h2', by rw [h3']; exact hn, ?_⟩
        obtain ⟨F, m, ok⟩ := h4'
        have r1 : RpL C F m vs' xs := ok.rows h3' fun q hq => List.mem_append_right _ (List.mem_append_left _ hq)
        have r2 : Rp C F m v (toD g) := ok.get (List.mem_append_right _ (List.mem_append_right _ (List.mem_cons_self ..)))
        have r3 := RpL.set r2 n r1
        have ok' : Ok C F m t1.S (τρ1 ++ τ) H1 := ok.re (fun x hx => by
          simp only [List.mem_append, List.mem_cons] at hx ⊢
          rcases hx with h | h
          · exact .inl h
          · exact .inr (.inr (.inr h))) fun a => by simp only [own_app, own_d, own_zip, List.count_append]; omega
        obtain ⟨τρ', s1, s2⟩ := put_at sl1 h1 hx (by simp [h3']) (Sim.zipTail (ok'.adds r3).sim)
        exact k σ _ τρ' s1 s2
      · exact k.elim
    · exact k.elim
  · exact q.elim
end
end Mi

set_option Elab.async false
set_option linter.all false
set_option maxRecDepth 100000
set_option maxHeartbeats 4000000
/-! MH: x op= e, names stored at once, loops. -/
namespace Mi
open PySem PySem.Spec PyProof.Rows L2 PySem.W PySem.SeqAt
section
variable {X : Cx} {C : Cn}

/-! ### x op= e, of a slot -/
def sAug (i : Nat) (k : Kind) (f : List Ob → D → D → Option GV) (c : M GV) : St' := fun t => match t.ρ[i]? with
  | some (some (.d x)) => (vl c t).fl fun y t1 => (match f t1.S x y with
    | some g => (gNm i k g t1).fl fun _ t2 => .nx t2
    | none => .bad)
  | _ => .bad
theorem snds_aug {i : Nat} {k : Kind} {f : List Ob → D → D → Option GV} {r : R2} {c : M GV} {x : Str} {e : Expr} {op : Operator} {pos pos' : Pos} (hf : Op2Ok C f r) (ho : OpR X (inplaceOp op) r) (hN : X.N.Nodup) (hi : X.N[i]? = some x) (hx : Loc X.env.scope x) (hfn : X.fn x = true ∨ X.env.scope.names.lookup x = some .local) (hc : Snd X C c e) :
    SndS X C (sAug i k f c) (.AugAssign (.Name x pos') op e pos) := fun σ ρ S τρ τ H D sl hs q => by
  have q' : Fl.post (match ρ[i]? with
    | some (some (.d x)) => (vl c ⟨ρ, S⟩).fl fun y t1 => (match f t1.S x y with
      | some g => (gNm i k g t1).fl fun _ t2 => .nx t2
      | none => .bad)
    | _ => .bad) (wish C τ D) := q
  split at q'
  · rename_i y e
    obtain ⟨v, h1, h2⟩ := sl.get e
    refine us_of (ps_aug hN hi hx pe_u ho hfn) ⟨v, h1, ?_⟩
    have hs0 : Sim C S (τρ ++ ((v, .d y) :: τ)) H := (hs.dup (List.mem_append_left _ h2)).back
    refine hc.vl sl hs0 (R.post_imp (R.post_fl q') fun z t k1 u H1 τρ1 sl1 hs1 => ?_)
    split at k1
    · rename_i g eg
      obtain ⟨F, m, ok⟩ := hs1
      have b1 := ok.rb (g := .d y) (v := v) (List.mem_cons_of_mem _ (List.mem_append_right _ (List.mem_cons_self ..)))
      have b2 := ok.rb (g := .d z) (v := u) (List.mem_cons_self ..)
      refine hf F m t.S _ H1 v u y z g _ ok b1 b2 eg fun w H2 hs2 => ?_
      have hs3 : Sim C t.S ((w, g) :: (τρ1 ++ τ)) H2 := hs2.re (fun x hx => by
        simp only [List.mem_append, List.mem_cons] at hx ⊢
        rcases hx with h | h | h
        · exact .inl h
        · exact .inr (.inr (.inl h))
        · exact .inr (.inr (.inr (.inr h)))) fun a => by
        rw [show (w, g) :: (τρ1 ++ τ) = [(w, g)] ++ (τρ1 ++ τ) from rfl, show (w, g) :: (u, GV.d z) :: (τρ1 ++ (v, GV.d y) :: τ) = [(w, g)] ++ ((u, GV.d z) :: (τρ1 ++ (v, GV.d y) :: τ)) from rfl]
        simp only [own_app, own_d, List.count_append]; omega
      have k2 := R.post_fl k1
      unfold gNm at k2
      split at k2
      · rename_i hl
        obtain ⟨τ', s1, s2⟩ := put_slot sl1 (hs3.keepAs k) hl
        exact k2 _ H2 τ' s1 s2
      · exact k2.elim
    · exact k1.elim
  · exact q'.elim

/-! ### a place of a list, op= -/
def sAugS (i : Nat) (f : List Ob → D → D → Option GV) (ci c : M GV) : St' := fun t => if (lstAt t i).isSome then (vl ci t).fl fun k t1 => (match lstAt t1 i, k with
  | some xs, .int j => (match atI xs j with
    | some x => (vl c t1).fl fun y t2 => (match f t2.S x y, lstAt t2 i with
      | some g, some ys => (match ixN ys.length j with
        | some n => .nx (putAt t2 i (ys.set n (toD g)))
        | none => .bad)
      | _, _ => .bad)
    | none => .bad)
  | _, _ => .bad)
  else .bad
theorem get_list : PGet X (rIxL X.K) := by
  intro pins s σ H x y v u Q I rx ry h
  obtain ⟨p, xs, i, z, rfl, rfl, hq, he, q⟩ := h
  cases rx
  obtain ⟨t, rfl⟩ := ry
  obtain ⟨its, r, pl, hz⟩ := I.list hq
  obtain ⟨j, h1, h2, h3, h4, h5⟩ := atI_get he
  obtain ⟨w, ew, rw'⟩ := r.get h2
  have hl := r.length
  have hn := line63
  have fin : EP X pins σ Q w s := ⟨z, H, I, rw', q⟩
  by_cases h0 : 0 ≤ i
  · have hj : i.toNat = j := by
      rw [seqIndex_of h0 h5] at h1
      exact Option.some.inj h1
    exact wpAny_getItem_list pl.isList h0 (by omega) (by rw [hj]; simpa using ew) fin
  · have hj : (i + (its.toArray.size : Int)).toNat = j := by
      rw [seqIndex_neg (by omega) h4] at h1
      rw [List.size_toArray, ← hl]
      exact Option.some.inj h1
    exact wpAny_getItem_list_neg pl.isList (by omega) (by rw [List.size_toArray] <;> omega) (by omega) (by rw [hj]; simpa using ew) fin
theorem augStore_no {e : Expr} (h : isSlice e = false) : ∀ ov iv new, augStore e ov iv new = (do holding [new, ov, iv] (setItem ov iv new); release [new, ov, iv] []; pure .next) := by
  intro ov iv new
  cases e <;> first | rfl | cases h
theorem snds_augS {i : Nat} {f : List Ob → D → D → Option GV} {r : R2} {ci c : M GV} {o ei e : Expr} {op : Operator} {pos tpos : Pos} (hf : Op2Ok C f r) (ho : OpR X (inplaceOp op) r) (hK : C.K = X.K) (hsl : isSlice ei = false) (hov : PE X o (tVar i)) (hci : Snd X C ci ei) (hc : Snd X C c e) :
    SndS X C (sAugS i f ci c) (.AugAssign (.Subscript o ei tpos) op e pos) := fun σ ρ S τρ τ H D sl hs q => by
  unfold sAugS at q
  split at q
  · rename_i hso
    obtain ⟨xs0, hx0⟩ := Option.isSome_iff_exists.mp hso
    obtain ⟨a, vs, h1, h2, h3, h4⟩ := lst_at (t := ⟨ρ, S⟩) sl hs hx0
    refine us_of (ps_augS hov pe_u get_list pe_u ho set_list (augStore_no hsl)) ⟨.ref a, h1, ?_⟩
    refine hci.vl sl hs (R.post_imp (R.post_fl q) fun k t1 k1 u H1 τρ1 sl1 hs1 => ?_)
    split at k1
    · rename_i _ _ xs j hx
      cases hs1.int_inv
      split at k1
      · rename_i x ex
        obtain ⟨a', vs1, h1', h2', h3', h4'⟩ := lst_at sl1 hs1.tail hx
        rw [h1] at h1'; cases h1'
        obtain ⟨F, m, ok⟩ := h4'
        have r1 : RpL C F m vs1 xs := ok.rows h3' fun q hq => List.mem_append_right _ (List.mem_append_left _ hq)
        obtain ⟨v, ev, rv⟩ := atI_rel r1 ex
        refine ⟨a, vs1, j, v, rfl, rfl, .inl (.inl h2'), ev, ?_⟩
        have hs2 : Sim C t1.S (τρ1 ++ ((v, .d x) :: τ)) H1 := ((ok.add rv).sim.re (fun x hx => by
          simp only [List.mem_append, List.mem_cons] at hx ⊢
          rcases hx with h | h | h
          · exact .inr (.inl h)
          · exact .inl h
          · exact .inr (.inr (.inr h))) fun a => by simp only [own_app, own_d, own_zip, List.count_append]; omega)
        refine hc.vl sl1 hs2 (R.post_imp (R.post_fl k1) fun y t2 k2 w H2 τρ2 sl2 hs3 => ?_)
        split at k2
        · rename_i _ _ g ys eg ey
          split at k2
          · rename_i n en
            obtain ⟨F2, m2, ok2⟩ := hs3
            have b1 := ok2.rb (g := .d x) (v := v) (List.mem_cons_of_mem _ (List.mem_append_right _ (List.mem_cons_self ..)))
            have b2 := ok2.rb (g := .d y) (v := w) (List.mem_cons_self ..)
            refine hf F2 m2 t2.S _ H2 v w x y g _ ok2 b1 b2 eg fun z H3 hs4 => ?_
            have hs5 := hs4.toD
            obtain ⟨a'', vs2, h1'', h2'', h3'', h4''⟩ := lst_at (τ := (z, .d (toD g)) :: (w, .d y) :: (v, .d x) :: τ) sl2 (hs5.re (fun x hx => by
              simp only [List.mem_append, List.mem_cons] at hx ⊢
              rcases hx with h | h | h | h | h
              · exact .inr (.inr (.inl h))
              · exact .inl h
              · exact .inr (.inl h)
              · exact .inr (.inr (.inr (.inl h)))
              · exact .inr (.inr (.inr (.inr h)))) fun a => by simp only [own_app, own_d, List.count_append]; omega) ey
            rw [h1] at h1''; cases h1''
            refine ⟨a, vs2, j, n, rfl, rfl, h2'', by rw [h3'']; exact en, ?_⟩
            obtain ⟨F3, m3, ok3⟩ := h4''
            have r3 : RpL C F3 m3 vs2 ys := ok3.rows h3'' fun q hq => List.mem_append_right _ (List.mem_append_left _ hq)
            have r4 : Rp C F3 m3 z (toD g) := ok3.get (List.mem_append_right _ (List.mem_append_right _ (List.mem_cons_self ..)))
            have ok' : Ok C F3 m3 t2.S (τρ2 ++ τ) H3 := ok3.re (fun x hx => by
              simp only [List.mem_append, List.mem_cons] at hx ⊢
              rcases hx with h | h
              · exact .inl h
              · exact .inr (.inr (.inr (.inr (.inr h))))) fun a => by simp only [own_app, own_d, own_zip, List.count_append]; omega
            obtain ⟨τρ', s1, s2⟩ := put_at sl2 h1 ey (by simp [h3'']) (Sim.zipTail (ok'.adds (RpL.set r4 n r3)).sim)
            exact k2 σ _ τρ' s1 s2
          · exact k2.elim
        · exact k2.elim
      · exact k1.elim
    · exact k1.elim
  · exact q.elim

/-! ### two, three names stored at once -/
def sPar2 (i : Nat) (ki : Kind) (j : Nat) (kj : Kind) (a b : M GV) : St' := fun t => (a t).fl fun g t1 => (b t1).fl fun g' t2 => (gNm i ki g t2).fl fun _ t3 => (gNm j kj g' t3).fl fun _ t4 => .nx t4
theorem go_name {σ : L2.St} {t : T} {τρ τ : List (V × GV)} {H : Hp} {v : V} {g : GV} {i : Nat} {k : Kind} {α : Type} {W : Wish} {kk : Unit → T → Fl} (sl : Slots σ t.ρ τρ) (hs : Sim C t.S ((v, g) :: (τρ ++ τ)) H) (q : ((gNm i k g t).fl kk).post W) :
    ∃ t' τ', Slots (σ.set i (some v)) t'.ρ τ' ∧ Sim C t'.S (τ' ++ τ) H ∧ (kk () t').post W := by
  have q := R.post_fl q
  unfold gNm at q
  split at q
  · rename_i hl
    obtain ⟨τ', s1, s2⟩ := put_slot sl (hs.keepAs k) hl
    exact ⟨_, τ', s1, s2, q⟩
  · exact q.elim
theorem snds_par2 {i j : Nat} {ki kj : Kind} {a b : M GV} {x y : Str} {ea eb : Expr} {px py pt pos : Pos} {kt k2 pt2} (hc : X.calm = true) (hN : X.N.Nodup) (hi : X.N[i]? = some x) (hj : X.N[j]? = some y) (hij : i ≠ j)
    (hx : X.env.scope.names.lookup x = some .local) (hy : X.env.scope.names.lookup y = some .local) (sa : isStar ea = false) (sb : isStar eb = false)
    (hw : swappedStores [.Tuple [.Name x px, .Name y py] kt pt] (.Tuple [ea, eb] k2 pt2) X.env = pure (some [x, y]))
    (ha : Snd X C a ea) (hb : Snd X C b eb) : SndS X C (sPar2 i ki j kj a b) (.Assign [.Tuple [.Name x px, .Name y py] kt pt] (.Tuple [ea, eb] k2 pt2) pos) := fun σ ρ S τρ τ H D sl hs q => by
  refine us_of (ps_par hc hN hi hj hij hx hy (pa_cons pe_u (pa_cons pe_u pa_nil (starEach_no sb)) (starEach_no sa)) hw (by rfl)) ?_
  refine ha σ ρ S τρ τ H _ sl hs (R.post_imp (R.post_fl q) fun g t1 k1 v H1 τρ1 sl1 hs1 => ?_)
  refine hb σ t1.ρ t1.S τρ1 ((v, g) :: τ) H1 _ sl1 hs1.back (R.post_imp (R.post_fl k1) fun g' t2 k2 w H2 τρ2 sl2 hs2 => ?_)
  refine ⟨v, w, rfl, ?_⟩
  have hs3 : Sim C t2.S ((v, g) :: (τρ2 ++ ((w, g') :: τ))) H2 := hs2.perm (by
    refine List.Perm.trans (List.Perm.cons _ List.perm_middle) ?_
    refine List.Perm.trans (List.Perm.swap ..) (List.Perm.cons _ ?_)
    exact (List.perm_middle).symm)
  obtain ⟨t3, τ3, s3, z3, k3⟩ := go_name (α := Unit) sl2 hs3 k2
  obtain ⟨t4, τ4, s4, z4, k4⟩ := go_name (α := Unit) s3 z3.front k3
  exact k4 _ H2 τ4 s4 z4
def sPar3 (i : Nat) (ki : Kind) (j : Nat) (kj : Kind) (l : Nat) (kl : Kind) (a b c : M GV) : St' := fun t => (a t).fl fun g t1 => (b t1).fl fun g' t2 => (c t2).fl fun g'' t2 => (gNm i ki g t2).fl fun _ t3 => (gNm j kj g' t3).fl fun _ t4 => (gNm l kl g'' t4).fl fun _ t5 => .nx t5
theorem snds_par3 {i j l : Nat} {ki kj kl : Kind} {a b c : M GV} {x y z : Str} {ea eb ec : Expr} {px py pz pt pos : Pos} {kt k2 pt2} (hc : X.calm = true) (hN : X.N.Nodup) (hi : X.N[i]? = some x) (hj : X.N[j]? = some y) (hl : X.N[l]? = some z) (hij : i ≠ j) (hil : i ≠ l) (hjl : j ≠ l)
    (hx : X.env.scope.names.lookup x = some .local) (hy : X.env.scope.names.lookup y = some .local) (hz : X.env.scope.names.lookup z = some .local) (sa : isStar ea = false) (sb : isStar eb = false) (sc : isStar ec = false)
    (hw : swappedStores [.Tuple [.Name x px, .Name y py, .Name z pz] kt pt] (.Tuple [ea, eb, ec] k2 pt2) X.env = pure (some [x, y, z]))
    (ha : Snd X C a ea) (hb : Snd X C b eb) (hcc : Snd X C c ec) : SndS X C (sPar3 i ki j kj l kl a b c) (.Assign [.Tuple [.Name x px, .Name y py, .Name z pz] kt pt] (.Tuple [ea, eb, ec] k2 pt2) pos) := fun σ ρ S τρ τ H D sl hs q => by
  refine us_of (ps_par3 hc hN hi hj hl hij hil hjl hx hy hz (pa_cons pe_u (pa_cons pe_u (pa_cons pe_u pa_nil (starEach_no sc)) (starEach_no sb)) (starEach_no sa)) hw (by rfl)) ?_
  refine ha σ ρ S τρ τ H _ sl hs (R.post_imp (R.post_fl q) fun g t1 k1 v H1 τρ1 sl1 hs1 => ?_)
  refine hb σ t1.ρ t1.S τρ1 ((v, g) :: τ) H1 _ sl1 hs1.back (R.post_imp (R.post_fl k1) fun g' t2 k2 w H2 τρ2 sl2 hs2 => ?_)
  refine hcc σ t2.ρ t2.S τρ2 ((w, g') :: (v, g) :: τ) H2 _ sl2 hs2.back (R.post_imp (R.post_fl k2) fun g'' t3 k3 u H3 τρ3 sl3 hs3 => ?_)
  refine ⟨v, w, u, rfl, ?_⟩
  have hs4 : Sim C t3.S ((v, g) :: (τρ3 ++ ((w, g') :: (u, g'') :: τ))) H3 := hs3.perm (by
    have p1 : ((u, g'') :: (τρ3 ++ (w, g') :: (v, g) :: τ)).Perm ((u, g'') :: (w, g') :: (v, g) :: (τρ3 ++ τ)) := List.Perm.cons _ (List.perm_middle.trans (List.Perm.cons _ List.perm_middle))
    have p2 : ((v, g) :: (τρ3 ++ (w, g') :: (u, g'') :: τ)).Perm ((v, g) :: (w, g') :: (u, g'') :: (τρ3 ++ τ)) := List.Perm.cons _ (List.perm_middle.trans (List.Perm.cons _ List.perm_middle))
    refine p2.trans (List.Perm.trans ?_ p1.symm)
    refine (List.Perm.swap ..).trans ((List.Perm.cons _ (List.Perm.swap ..)).trans ?_)
    exact (List.Perm.swap ..).trans (List.Perm.refl _))
  obtain ⟨t4, τ4, s4, z4, k4⟩ := go_name (α := Unit) sl3 hs4 k3
  obtain ⟨t5, τ5, s5, z5, k5⟩ := go_name (α := Unit) s4 z4.front k4
  obtain ⟨t6, τ6, s6, z6, k6⟩ := go_name (α := Unit) s5 z5.front k5
  exact k6 _ H3 τ6 s6 z6
/-- x = y = e -/
def sAsg2 (b1 b2 : GV → M Unit) (c : M GV) : St' := fun t => (vl c t).fl fun x t1 => (b1 (.d x) t1).fl fun _ t2 => (b2 (.d x) t2).fl fun _ t3 => .nx t3
theorem swapped_two {t1 t2 e : Expr} {env : Env} : swappedStores [t1, t2] e env = pure none := by
  unfold swappedStores
  cases t1 <;> rfl
theorem snds_asg2 {b1 b2 : GV → M Unit} {c : M GV} {e t1 t2 : Expr} {pos : Pos} (h1 : plainTg t1 = true) (h2 : plainTg t2 = true) (hc : Snd X C c e) (hb1 : SndG X C b1 t1) (hb2 : SndG X C b2 t2) : SndS X C (sAsg2 b1 b2 c) (.Assign [t1, t2] e pos) := fun σ ρ S τρ τ H D sl hs q =>
  us_of (ps_asg2 pe_u pg_u pg_u (by rw [assignEach_no h1, assignEach_no h2]; rfl) swapped_two) (by
    refine hc.vl sl hs (R.post_imp (R.post_fl q) fun x t k v H1 τρ1 sl1 hs1 => ?_)
    refine hb1 σ t.ρ t.S τρ1 ((v, .d x) :: τ) H1 v (.d x) _ sl1 (hs1.back.dup (List.mem_append_right _ (List.mem_cons_self ..))) (R.post_imp (R.post_fl k) fun _ t2 k2 σ2 H2 τρ2 sl2 hs2 => ?_)
    exact hb2 σ2 t2.ρ t2.S τρ2 τ H2 v (.d x) _ sl2 hs2.front (R.post_imp (R.post_fl k2) fun _ t3 k3 => k3))
end
end Mi

set_option Elab.async false
set_option linter.all false
set_option maxRecDepth 100000
set_option maxHeartbeats 4000000
/-! MI: what a loop goes over; for, while; list comprehensions. -/
namespace Mi
open PySem PySem.Spec PyProof.Rows L2 PySem.W PySem.SeqAt

/-- J yields what stands for xs, while the entries τh are held -/
structure ItOk (C : Cn) (J : It) (xs : List D) (τh : List (V × GV)) : Prop where
  go : ∀ i S τ H, i < xs.length → Sim C S τ H → (∀ q ∈ τh, q ∈ τ) → J.go i H
  yld : ∀ i x S τ H v H', xs[i]? = some x → Sim C S τ H → (∀ q ∈ τh, q ∈ τ) → J.yld i H v H' → Sim C S ((v, .d x) :: τ) H'
  stop : ∀ S τ H, Sim C S τ H → (∀ q ∈ τh, q ∈ τ) → J.stop xs.length H
def UI (X : Cx) (tg iter : Expr) : TI := fun σ H R => ∀ pins s, Inv X pins σ H s → wpAny (model X.prog X.w) X.A (eval iter X.env) (fun v s1 => wpAny (model X.prog X.w) X.A (pyIter v) (PIE X pins σ tg R) X.xe s1) X.xe s
section
variable {X : Cx} {C : Cn} {tg e : Expr}
theorem pi_u {iter : Expr} : PI X tg iter (UI X tg iter) := ⟨fun pins s σ H R I h => h pins s I⟩
theorem ui_of {iter : Expr} {wi : TI} {σ : L2.St} {H : Hp} {R : It → Hp → Prop} (h : PI X tg iter wi) (q : wi σ H R) : UI X tg iter σ H R := fun pins s I => h.run pins s σ H R I q
end
def SndI (X : Cx) (C : Cn) (src : M (List D)) (tg iter : Expr) : Prop := ∀ (σ : L2.St) (ρ : List (Option GV)) (S : List Ob) (τρ τ : List (V × GV)) (H : Hp) (R : It → Hp → Prop), Slots σ ρ τρ → Sim C S (τρ ++ τ) H →
  (src ⟨ρ, S⟩).post (fun xs t => ∀ J H' τρ' τh, Slots σ t.ρ τρ' → own τh = [] → Sim C t.S (τρ' ++ (τh ++ τ)) H' → ItOk C J xs τh → R J H') → UI X tg iter σ H R
section
variable {X : Cx} {C : Cn} {tg : Expr}

/-! ### sources -/
/-- a list or tuple -/
def seqOf : D → Option (List D)
  | .list xs => some xs
  | .tuple xs => some xs
  | _ => none
def iVal (c : M GV) : M (List D) := fun t => (vl c t).bind fun x t1 => match seqOf x with
  | some xs => .ok xs t1
  | none => .bad
/-- a variable's list or tuple; an own list is locked from here on -/
def iVar (i : Nat) : M (List D) := fun t => match t.ρ[i]? with
  | some (some (.ob .l xs)) => .ok xs ⟨t.ρ.set i (some (.d (.list xs))), t.S⟩
  | some (some (.d x)) => (match seqOf x with
    | some xs => .ok xs t
    | none => .bad)
  | _ => .bad
def iSeqM (K : PySem.W.Frag) (tl : TE) : TI := fun σ H R => tl σ H fun x H1 => ∃ a, x = .ref a ∧ ((∃ xs, SqL K H1 a xs ∧ R (Itl K a) H1) ∨ ∃ xs, SqT K H1 a xs ∧ R (Itt K a) H1)
theorem pi_seqM {l : Expr} {tl : TE} (hl : PE X l tl) : PI X tg l (iSeqM X.K tl) := by
  refine ⟨fun pins s σ H R I h => ?_⟩
  refine thn (hl.run pins s σ H _ I h) fun v s1 ⟨x, H1, I1, r1, q1⟩ => ?_
  obtain ⟨a, e, q1⟩ := q1
  subst e
  cases r1
  rcases q1 with ⟨xs, hq, q⟩ | ⟨xs, hq, q⟩
  · obtain ⟨its, rv, p, hz⟩ := I1.list hq
    refine wpAny_pyIter_list p.isList ?_
    refine ⟨s1.heap.objs.size, [s1.heap.objs.size], _, _, H1, rfl, I1.kept (t' := s1.toks) fun b o e => Heap.get?_push_of_some _ e, turn_list a _, ⟨_, Heap.get?_push_size _ rfl, rfl, rfl⟩, fun b hb => ?_, q⟩
    have e : b = s1.heap.objs.size := by simpa using hb
    subst e
    exact I1.fpOk (Nat.le_refl _) (I1.hok.fresh (Nat.le_refl _))
  · obtain ⟨its, rv, p, hz⟩ := I1.tuple hq
    refine wpAny_pyIter_tuple (show s1.heap.IsTuple a its.toArray from p) ?_
    refine ⟨s1.heap.objs.size, [s1.heap.objs.size], _, _, H1, rfl, I1.kept (t' := s1.toks) fun b o e => Heap.get?_push_of_some _ e, turn_tuple a _, ⟨_, Heap.get?_push_size _ rfl, rfl, rfl⟩, fun b hb => ?_, q⟩
    have e : b = s1.heap.objs.size := by simpa using hb
    subst e
    exact I1.fpOk (Nat.le_refl _) (I1.hok.fresh (Nat.le_refl _))
theorem RpL.at {F m} {vs : List V} {xs : List D} (r : RpL C F m vs xs) {i : Nat} (h : i < xs.length) : ∃ v, vs[i]? = some v := by
  have := r.len
  exact ⟨vs[i]'(by omega), List.getElem?_eq_getElem (by omega)⟩
theorem itl_ok {a : Addr} {xs : List D} : ItOk C (Itl C.K a) xs [(.ref a, .d (.list xs))] where
  go := fun i S τ H hi hs hm => by
    obtain ⟨F, m, ok⟩ := hs
    obtain ⟨a', vs, e, h1, r⟩ := Rb.lst (.inl (ok.get (hm _ (List.mem_cons_self ..)))) ok.sub
    cases e
    obtain ⟨v, hv⟩ := r.at hi
    exact ⟨vs, v, .inl (.inl h1), hv⟩
  yld := fun i x S τ H v H' hx hs hm hy => by
    obtain ⟨F, m, ok⟩ := hs
    obtain ⟨a', vs, e, h1, r⟩ := Rb.lst (.inl (ok.get (hm _ (List.mem_cons_self ..)))) ok.sub
    cases e
    obtain ⟨rfl, hall⟩ := hy
    obtain ⟨v', hv, rv⟩ := r.get' hx
    have := hall vs (.inl (.inl h1))
    rw [hv] at this; cases this
    exact (ok.add rv).sim
  stop := fun S τ H hs hm => by
    obtain ⟨F, m, ok⟩ := hs
    obtain ⟨a', vs, e, h1, r⟩ := Rb.lst (.inl (ok.get (hm _ (List.mem_cons_self ..)))) ok.sub
    cases e
    exact ⟨vs, .inl (.inl h1), by rw [r.len]; exact Nat.le_refl _⟩
theorem itt_ok {a : Addr} {xs : List D} : ItOk C (Itt C.K a) xs [(.ref a, .d (.tuple xs))] where
  go := fun i S τ H hi hs hm => by
    obtain ⟨F, m, ok⟩ := hs
    obtain ⟨a', vs, e, h1, r⟩ := Rb.tup (.inl (ok.get (hm _ (List.mem_cons_self ..)))) ok.sub
    cases e
    obtain ⟨v, hv⟩ := r.at hi
    exact ⟨vs, v, h1, hv⟩
  yld := fun i x S τ H v H' hx hs hm hy => by
    obtain ⟨F, m, ok⟩ := hs
    obtain ⟨a', vs, e, h1, r⟩ := Rb.tup (.inl (ok.get (hm _ (List.mem_cons_self ..)))) ok.sub
    cases e
    obtain ⟨rfl, hall⟩ := hy
    obtain ⟨v', hv, rv⟩ := r.get' hx
    have := hall vs h1
    rw [hv] at this; cases this
    exact (ok.add rv).sim
  stop := fun S τ H hs hm => by
    obtain ⟨F, m, ok⟩ := hs
    obtain ⟨a', vs, e, h1, r⟩ := Rb.tup (.inl (ok.get (hm _ (List.mem_cons_self ..)))) ok.sub
    cases e
    exact ⟨vs, h1, by rw [r.len]; exact Nat.le_refl _⟩
/-- a value that is a row, walked -/
theorem go_seq {S τ H} {v : V} {x : D} {xs : List D} {R : It → Hp → Prop} (hs : Sim C S ((v, .d x) :: τ) H) (e : seqOf x = some xs) (k : ∀ J, ItOk C J xs [(v, .d x)] → R J H) :
    ∃ a, v = .ref a ∧ ((∃ xs, SqL C.K H a xs ∧ R (Itl C.K a) H) ∨ ∃ xs, SqT C.K H a xs ∧ R (Itt C.K a) H) := by
  unfold seqOf at e
  split at e
  · cases e
    obtain ⟨a, vs, rfl, h1, _⟩ := hs.lst_inv
    exact ⟨a, rfl, .inl ⟨vs, .inl (.inl h1), k _ itl_ok⟩⟩
  · cases e
    obtain ⟨a, vs, rfl, h1, _⟩ := hs.tup_inv
    exact ⟨a, rfl, .inr ⟨vs, h1, k _ itt_ok⟩⟩
  · cases e
theorem sndi_val {c : M GV} {e : Expr} (hK : C.K = X.K) (h : Snd X C c e) : SndI X C (iVal c) tg e := fun σ ρ S τρ τ H Z sl hs q => by
  refine ui_of (pi_seqM pe_u) ?_
  unfold iSeqM
  rw [← hK]
  refine h.vl sl hs (R.post_imp (R.post_bind.mp q) fun x t k v H1 τρ1 sl1 hs1 => ?_)
  split at k
  · rename_i xs ex
    exact go_seq hs1 ex fun J ok => k J H1 τρ1 [(v, .d x)] sl1 (own_d v x []) hs1.back ok
  · exact k.elim
theorem sndi_var {i : Nat} {e : Expr} (hK : C.K = X.K) (h : PE X e (tVar i)) : SndI X C (iVar i) tg e := fun σ ρ S τρ τ H Z sl hs q => by
  refine ui_of (pi_seqM h) ?_
  unfold iSeqM
  rw [← hK]
  have q' : R.post (match ρ[i]? with
    | some (some (.ob .l xs)) => R.ok xs ⟨ρ.set i (some (.d (.list xs))), S⟩
    | some (some (.d x)) => (match seqOf x with
      | some xs => .ok xs ⟨ρ, S⟩
      | none => .bad)
    | _ => .bad) _ := q
  split at q'
  · rename_i xs e1
    obtain ⟨v, τ0, h1, h2, h3, h4⟩ := sl.out e1
    obtain ⟨τ', p1, s1⟩ := h4 v (.d (.list xs))
    have hσ : σ.set i (some v) = σ := by
      obtain ⟨hi, ei⟩ := List.getElem?_eq_some_iff.mp h1
      rw [← ei]; exact List.set_getElem_self hi
    rw [hσ] at s1
    have z := Sim.lock (hs.perm (h2.symm.append_right τ))
    have z2 : Sim C S (τ' ++ τ) H := z.perm (p1.append_right τ)
    have z3 : Sim C S ((v, .d (.list xs)) :: (τ' ++ τ)) H := z2.dup (List.mem_append_left _ (p1.mem_iff.mpr (List.mem_cons_self ..)))
    exact ⟨v, h1, go_seq z3 (x := .list xs) rfl fun J ok => q' J H τ' [(v, .d (.list xs))] s1 (own_d v _ []) z3.back ok⟩
  · rename_i x e1
    split at q'
    · rename_i xs ex
      obtain ⟨v, h1, h2⟩ := sl.get e1
      have z3 := hs.dup (List.mem_append_left _ h2)
      exact ⟨v, h1, go_seq z3 ex fun J ok => q' J H τρ [(v, .d x)] sl (own_d v x []) z3.back ok⟩
    · exact q'.elim
  · exact q'.elim
/-- range(n), range(a, b) -/
def rowI (lo : Int) (n : Nat) : List D := (List.range n).map fun i => .int (lo + (i : Nat))
def rngB (a b : Int) : Bool := decide (-1000000000 ≤ a) && decide (a ≤ 1000000000) && decide (-1000000000 ≤ b) && decide (b ≤ 1000000000)
theorem rngB_of {a b : Int} (h : rngB a b = true) : -(2 ^ 62) ≤ a ∧ a < 2 ^ 62 ∧ -(2 ^ 62) ≤ b ∧ b < 2 ^ 62 := by
  unfold rngB at h
  simp only [Bool.and_eq_true, decide_eq_true_eq] at h
  omega
def iRange1 (c : M GV) : M (List D) := fun t => (vl c t).bind fun x t1 => match x with
  | .int n => if rngB 0 n then .ok (rowI 0 n.toNat) t1 else .bad
  | _ => .bad
def iRange2 (c c' : M GV) : M (List D) := fun t => (vl c t).bind fun x t1 => (vl c' t1).bind fun y t2 => match x, y with
  | .int a, .int b => if rngB a b then .ok (rowI a (b - a).toNat) t2 else .bad
  | _, _ => .bad
theorem itr_ok {lo : Int} {n : Nat} : ItOk C (Itr lo n) (rowI lo n) [] where
  go := fun i S τ H hi hs hm => by
    unfold rowI at hi; rw [List.length_map, List.length_range] at hi; exact hi
  yld := fun i x S τ H v H' hx hs hm hy => by
    obtain ⟨rfl, rfl⟩ := hy
    unfold rowI at hx
    rw [List.getElem?_map] at hx
    obtain ⟨j, h1, h2⟩ := Option.map_eq_some_iff.mp hx
    obtain ⟨hl, h3⟩ := List.getElem?_eq_some_iff.mp h1
    rw [List.getElem_range] at h3
    subst h3; subst h2
    exact hs.int _
  stop := fun S τ H hs hm => by
    unfold rowI; rw [List.length_map, List.length_range]; exact Nat.le_refl _
theorem sndi_range1 {c : M GV} {e : Expr} {p pos : Pos} (hg : Gl X "range") (hm : X.mg "range" = none) (hst : isStar e = false) (h : Snd X C c e) : SndI X C (iRange1 c) tg (.Call (.Name "range" p) [e] [] pos) := fun σ ρ S τρ τ H Z sl hs q => by
  refine ui_of (pi_range1 hg hm (pa_cons pe_u pa_nil (starEach_no hst)) (starEach_no hst)) ?_
  refine h.vl sl hs (R.post_imp (R.post_bind.mp q) fun x t k v H1 τρ1 sl1 hs1 => ?_)
  split at k
  · split at k
    · rename_i n hr
      cases hs1.int_inv
      obtain ⟨_, _, h3, h4⟩ := rngB_of hr
      exact ⟨n, rfl, h3, h4, k _ H1 τρ1 [] sl1 rfl hs1.tail itr_ok⟩
    · exact k.elim
  · exact k.elim
theorem sndi_range2 {c c' : M GV} {e e' : Expr} {p pos : Pos} (hg : Gl X "range") (hm : X.mg "range" = none) (hst : isStar e = false) (hst' : isStar e' = false) (h : Snd X C c e) (h' : Snd X C c' e') : SndI X C (iRange2 c c') tg (.Call (.Name "range" p) [e, e'] [] pos) := fun σ ρ S τρ τ H Z sl hs q => by
  refine ui_of (pi_range2 hg hm (pa_cons pe_u (pa_cons pe_u pa_nil (starEach_no hst')) (starEach_no hst)) (by rw [starEach_no hst, starEach_no hst']; rfl) (starEach_no hst')) ?_
  refine h.vl sl hs (R.post_imp (R.post_bind.mp q) fun x t k v H1 τρ1 sl1 hs1 => ?_)
  refine h'.vl sl1 hs1.back (R.post_imp (R.post_bind.mp k) fun y t2 k2 u H2 τρ2 sl2 hs2 => ?_)
  split at k2
  · split at k2
    · rename_i a b hr
      cases hs2.int_inv
      cases (hs2.tail.front).int_inv
      exact ⟨a, b, rfl, rngB_of hr, k2 _ H2 τρ2 [] sl2 rfl (hs2.tail.front).tail itr_ok⟩
    · exact k2.elim
  · exact k2.elim
/-- zip of two lists, of two tuples -/
def pairs : List D → List D → List D
  | x :: xs, y :: ys => .tuple [x, y] :: pairs xs ys
  | _, _ => []
theorem pairs_get : ∀ {xs ys : List D} {i : Nat} {z : D}, (pairs xs ys)[i]? = some z → ∃ x y, xs[i]? = some x ∧ ys[i]? = some y ∧ z = .tuple [x, y]
  | [], _, _, _, h => by simp [pairs] at h
  | _ :: _, [], _, _, h => by simp [pairs] at h
  | x :: xs, y :: ys, 0, z, h => by simp [pairs] at h; exact ⟨x, y, rfl, rfl, h.symm⟩
  | x :: xs, y :: ys, i + 1, z, h => by
    obtain ⟨a, b, h1, h2, h3⟩ := pairs_get (xs := xs) (ys := ys) (i := i) (by simpa [pairs] using h)
    exact ⟨a, b, by simpa using h1, by simpa using h2, h3⟩
theorem pairs_len : ∀ {xs ys : List D}, (pairs xs ys).length = min xs.length ys.length
  | [], _ => by simp [pairs]
  | _ :: _, [] => by simp [pairs]
  | x :: xs, y :: ys => by simp only [pairs, List.length_cons, pairs_len (xs := xs) (ys := ys)]; omega
def zipOf : D → D → Option (List D)
  | .list xs, .list ys => some (pairs xs ys)
  | .tuple xs, .tuple ys => some (pairs xs ys)
  | _, _ => none
def iZipM (a b : M GV) : M (List D) := fun t => (vl a t).bind fun x t1 => (vl b t1).bind fun y t2 => match zipOf x y with
  | some zs => .ok zs t2
  | none => .bad
theorem pair_new {F m S τ H} {u v : V} {x y : D} {T : Addr} (ok : Ok C F m S τ H) (r1 : Rp C F m u x) (r2 : Rp C F m v y) (hT : H T = none) : Sim C S ((.ref T, .d (.tuple [x, y])) :: τ) (upd H T (.tup [u, v])) :=
  ok.newTup (.cons r1 (.cons r2 .nil)) hT
theorem itz_ok {a b : Addr} {xs ys : List D} : ItOk C (Itz C.K a b) (pairs xs ys) [(.ref a, .d (.list xs)), (.ref b, .d (.list ys))] where
  go := fun i S τ H hi hs hm => by
    rw [pairs_len] at hi
    obtain ⟨F, m, ok⟩ := hs
    obtain ⟨a', vs, e, h1, r⟩ := Rb.lst (.inl (ok.get (hm _ (List.mem_cons_self ..)))) ok.sub
    cases e
    obtain ⟨b', us, e, h2, r2⟩ := Rb.lst (.inl (ok.get (hm _ (List.mem_cons_of_mem _ (List.mem_cons_self ..))))) ok.sub
    cases e
    obtain ⟨v, hv⟩ := r.at (show i < xs.length by omega)
    obtain ⟨u, hu⟩ := r2.at (show i < ys.length by omega)
    exact ⟨vs, us, v, u, .inl (.inl h1), .inl (.inl h2), hv, hu⟩
  yld := fun i x S τ H v H' hx hs hm hy => by
    obtain ⟨F, m, ok⟩ := hs
    obtain ⟨a', vs, e, h1, r⟩ := Rb.lst (.inl (ok.get (hm _ (List.mem_cons_self ..)))) ok.sub
    cases e
    obtain ⟨b', us, e, h2, r2⟩ := Rb.lst (.inl (ok.get (hm _ (List.mem_cons_of_mem _ (List.mem_cons_self ..))))) ok.sub
    cases e
    obtain ⟨T, x1, x2, rfl, hT, rfl, f1, f2⟩ := hy
    obtain ⟨p, q, e1, e2, rfl⟩ := pairs_get hx
    obtain ⟨v1, hv1, rv1⟩ := r.get' e1
    obtain ⟨v2, hv2, rv2⟩ := r2.get' e2
    have z1 := f1 vs (.inl (.inl h1)); rw [hv1] at z1; cases z1
    have z2 := f2 us (.inl (.inl h2)); rw [hv2] at z2; cases z2
    exact pair_new ok rv1 rv2 hT
  stop := fun S τ H hs hm => by
    obtain ⟨F, m, ok⟩ := hs
    obtain ⟨a', vs, e, h1, r⟩ := Rb.lst (.inl (ok.get (hm _ (List.mem_cons_self ..)))) ok.sub
    cases e
    obtain ⟨b', us, e, h2, r2⟩ := Rb.lst (.inl (ok.get (hm _ (List.mem_cons_of_mem _ (List.mem_cons_self ..))))) ok.sub
    cases e
    refine ⟨vs, us, .inl (.inl h1), .inl (.inl h2), ?_⟩
    rw [pairs_len, r.len, r2.len]
    omega
theorem itzT_ok {a b : Addr} {xs ys : List D} : ItOk C (RZ.ItzT C.K a b) (pairs xs ys) [(.ref a, .d (.tuple xs)), (.ref b, .d (.tuple ys))] where
  go := fun i S τ H hi hs hm => by
    rw [pairs_len] at hi
    obtain ⟨F, m, ok⟩ := hs
    obtain ⟨a', vs, e, h1, r⟩ := Rb.tup (.inl (ok.get (hm _ (List.mem_cons_self ..)))) ok.sub
    cases e
    obtain ⟨b', us, e, h2, r2⟩ := Rb.tup (.inl (ok.get (hm _ (List.mem_cons_of_mem _ (List.mem_cons_self ..))))) ok.sub
    cases e
    obtain ⟨v, hv⟩ := r.at (show i < xs.length by omega)
    obtain ⟨u, hu⟩ := r2.at (show i < ys.length by omega)
    exact ⟨vs, us, v, u, h1, h2, hv, hu⟩
  yld := fun i x S τ H v H' hx hs hm hy => by
    obtain ⟨F, m, ok⟩ := hs
    obtain ⟨a', vs, e, h1, r⟩ := Rb.tup (.inl (ok.get (hm _ (List.mem_cons_self ..)))) ok.sub
    cases e
    obtain ⟨b', us, e, h2, r2⟩ := Rb.tup (.inl (ok.get (hm _ (List.mem_cons_of_mem _ (List.mem_cons_self ..))))) ok.sub
    cases e
    obtain ⟨T, x1, x2, rfl, hT, rfl, f1, f2⟩ := hy
    obtain ⟨p, q, e1, e2, rfl⟩ := pairs_get hx
    obtain ⟨v1, hv1, rv1⟩ := r.get' e1
    obtain ⟨v2, hv2, rv2⟩ := r2.get' e2
    have z1 := f1 vs h1; rw [hv1] at z1; cases z1
    have z2 := f2 us h2; rw [hv2] at z2; cases z2
    exact pair_new ok rv1 rv2 hT
  stop := fun S τ H hs hm => by
    obtain ⟨F, m, ok⟩ := hs
    obtain ⟨a', vs, e, h1, r⟩ := Rb.tup (.inl (ok.get (hm _ (List.mem_cons_self ..)))) ok.sub
    cases e
    obtain ⟨b', us, e, h2, r2⟩ := Rb.tup (.inl (ok.get (hm _ (List.mem_cons_of_mem _ (List.mem_cons_self ..))))) ok.sub
    cases e
    refine ⟨vs, us, h1, h2, ?_⟩
    rw [pairs_len, r.len, r2.len]
    omega
theorem sndi_zip {a b : M GV} {e e' : Expr} {es : List Expr} {kk : Nat} {tpos p pos : Pos} (hK : C.K = X.K) (hg : Gl X "zip") (hm : X.mg "zip" = none) (hst : isStar e = false) (hst' : isStar e' = false) (h : Snd X C a e) (h' : Snd X C b e') :
    SndI X C (iZipM a b) (.Tuple es kk tpos) (.Call (.Name "zip" p) [e, e'] [] pos) := fun σ ρ S τρ τ H Z sl hs q => by
  refine ui_of (RZ.pi_zipA hg hm (pa_cons pe_u (pa_cons pe_u pa_nil (starEach_no hst')) (starEach_no hst)) (starEach_no hst) (backTo_no (by simp [hst']))) ?_
  unfold RZ.iZipA
  rw [← hK]
  refine h.vl sl hs (R.post_imp (R.post_bind.mp q) fun x t k v H1 τρ1 sl1 hs1 => ?_)
  refine h'.vl sl1 hs1.back (R.post_imp (R.post_bind.mp k) fun y t2 k2 u H2 τρ2 sl2 hs2 => ?_)
  split at k2
  · rename_i zs ez
    unfold zipOf at ez
    split at ez
    · cases ez
      have z1 : Sim C t2.S ((v, GV.d (.list _)) :: (u, GV.d (.list _)) :: (τρ2 ++ τ)) H2 := (hs2.perm (by exact (List.Perm.cons _ List.perm_middle.symm)) : Sim C t2.S ((u, _) :: (v, _) :: (τρ2 ++ τ)) H2).perm (List.Perm.swap ..)
      obtain ⟨a, vs, rfl, h1, _⟩ := z1.lst_inv
      obtain ⟨b, us, rfl, h2, _⟩ := z1.tail.lst_inv
      refine ⟨a, b, vs, us, rfl, .inl ⟨.inl (.inl h1), .inl (.inl h2), k2 _ H2 τρ2 [_, _] sl2 ?_ ?_ itz_ok⟩⟩
      · rw [own_d, own_d]; rfl
      · exact z1.perm (by
          rw [← List.append_assoc]
          exact (List.perm_append_comm (l₁ := τρ2) (l₂ := [_, _])).append_right τ)
    · cases ez
      have z1 : Sim C t2.S ((v, GV.d (.tuple _)) :: (u, GV.d (.tuple _)) :: (τρ2 ++ τ)) H2 := (hs2.perm (by exact (List.Perm.cons _ List.perm_middle.symm)) : Sim C t2.S ((u, _) :: (v, _) :: (τρ2 ++ τ)) H2).perm (List.Perm.swap ..)
      obtain ⟨a, vs, rfl, h1, _⟩ := z1.tup_inv
      obtain ⟨b, us, rfl, h2, _⟩ := z1.tail.tup_inv
      refine ⟨a, b, vs, us, rfl, .inr ⟨h1, h2, k2 _ H2 τρ2 [_, _] sl2 ?_ ?_ itzT_ok⟩⟩
      · rw [own_d, own_d]; rfl
      · exact z1.perm (by
          rw [← List.append_assoc]
          exact (List.perm_append_comm (l₁ := τρ2) (l₂ := [_, _])).append_right τ)
    · cases ez
  · exact k2.elim

/-! ### for -/
def forL (b : GV → M Unit) (body : St') : List D → T → Fl
  | [], t => .nx t
  | x :: xs, t => (b (.d x) t).fl fun _ t1 => match body t1 with
    | .nx t2 => forL b body xs t2
    | .ct t2 => forL b body xs t2
    | .bk t2 => .nx t2
    | f => f
def sFor (src : M (List D)) (b : GV → M Unit) (body : St') : St' := fun t => (src t).fl fun xs t1 => forL b body xs t1
theorem isFold_no {iter : Expr} {env : Env} (h : (match iter with | .Set _ _ _ => false | _ => true) = true) : ∀ x, foldedSetIterable iter env x = pure x := by
  intro x
  cases iter <;> first | rfl | cases h
theorem Sim.drop2 {S : List Ob} {τ τρ τh : List (V × GV)} {H : Hp} (h : Sim C S (τρ ++ (τh ++ τ)) H) : Sim C S (τρ ++ τ) H := h.re (fun x hx => by
  simp only [List.mem_append] at hx ⊢
  rcases hx with h | h
  · exact .inl h
  · exact .inr (.inr h)) fun a => by simp only [own_app, List.count_append]; omega
theorem go_for {J : It} {xs : List D} {τh : List (V × GV)} {b : GV → M Unit} {body : St'} {eb : List Stmt} (ok : ItOk C J xs τh) (hb : SndG X C b tg) (hB : SndB X C body eb) {σ : L2.St} {ρ : List (Option GV)} {S : List Ob} {τρ τ : List (V × GV)} {H : Hp} {D : Ends} (sl : Slots σ ρ τρ) (hs : Sim C S (τρ ++ (τh ++ τ)) H)
    (q : (forL b body xs ⟨ρ, S⟩).post (wish C τ D)) : ∃ W : Nat → Nat → L2.St → Hp → Prop, (∃ m, W 0 m σ H) ∧ ∀ i m σ H, W i m σ H →
      (J.stop i H ∧ D.nx σ H) ∨ (J.go i H ∧ ∃ N : L2.St → Hp → Prop, (∀ σ' H', N σ' H' → ∃ m', m' < m ∧ W (i + 1) m' σ' H') ∧ ∀ x H', J.yld i H x H' → UG X tg x σ H' fun σ2 H2 => USs X eb { D with nx := N, ct := N, bk := D.nx } σ2 H2) := by
  refine ⟨fun i m σ H => m = xs.length - i ∧ i ≤ xs.length ∧ ∃ (t : T) (τρ : List (V × GV)), Slots σ t.ρ τρ ∧ Sim C t.S (τρ ++ (τh ++ τ)) H ∧ (forL b body (xs.drop i) t).post (wish C τ D), ⟨xs.length, rfl, Nat.zero_le _, ⟨ρ, S⟩, τρ, sl, hs, q⟩, ?_⟩
  rintro i m σ H ⟨rfl, hi, t, τρ, sl, hs, q⟩
  have hm : ∀ q ∈ τh, q ∈ τρ ++ (τh ++ τ) := fun q hq => List.mem_append_right _ (List.mem_append_left _ hq)
  by_cases hl : i < xs.length
  · have hd : xs.drop i = xs[i] :: xs.drop (i + 1) := List.drop_eq_getElem_cons hl
    rw [hd] at q
    refine .inr ⟨ok.go i t.S _ H hl hs hm, fun σ' H' => ∃ (t : T) (τρ : List (V × GV)), Slots σ' t.ρ τρ ∧ Sim C t.S (τρ ++ (τh ++ τ)) H' ∧ (forL b body (xs.drop (i + 1)) t).post (wish C τ D), fun σ' H' ⟨t', τρ', a1, a2, a3⟩ => ⟨xs.length - (i + 1), by omega, rfl, hl, t', τρ', a1, a2, a3⟩, fun v H' hy => ?_⟩
    have hs1 := ok.yld i xs[i] t.S _ H v H' (List.getElem?_eq_getElem hl) hs hm hy
    refine hb σ t.ρ t.S τρ (τh ++ τ) H' v (.d xs[i]) _ sl hs1 (R.post_imp (R.post_fl q) fun _ t1 k σ2 H2 τρ2 sl2 hs2 => ?_)
    refine hB σ2 t1.ρ t1.S τρ2 (τh ++ τ) H2 _ sl2 hs2 ?_
    cases e : body t1 with
    | nx t2 => rw [e] at k; exact fun σ' H' τρ' s1 s2 => ⟨t2, τρ', s1, s2, k⟩
    | ct t2 => rw [e] at k; exact fun σ' H' τρ' s1 s2 => ⟨t2, τρ', s1, s2, k⟩
    | bk t2 => rw [e] at k; exact fun σ' H' τρ' s1 s2 => k σ' H' τρ' s1 s2.drop2
    | rt g t2 => rw [e] at k; exact fun v H' s2 => k v H' (Sim.drop2 (τρ := [(v, g)]) s2)
    | exc => rw [e] at k; exact k.elim
    | bad => rw [e] at k; exact k.elim
  · have he : i = xs.length := by omega
    subst he
    rw [List.drop_length] at q
    exact .inl ⟨ok.stop t.S _ H hs hm, q σ H τρ sl hs.drop2⟩
theorem snds_for {src : M (List D)} {b : GV → M Unit} {body : St'} {iter : Expr} {eb : List Stmt} {pos : Pos} (hp : PassesOwn (model X.prog X.w) X.A X.env X.xe) (hc : X.calm = true) (hf : (match iter with | .Set _ _ _ => false | _ => true) = true) (hi : SndI X C src tg iter) (hb : SndG X C b tg) (hB : SndB X C body eb) :
    SndS X C (sFor src b body) (.For tg iter eb [] pos) := fun σ ρ S τρ τ H D sl hs q =>
  us_of (ps_for hp hc pi_u pg_u pss_u (isFold_no hf)) (hi σ ρ S τρ τ H _ sl hs (R.post_imp (R.post_fl q) fun xs t k J H1 τρ1 τh sl1 _ hs1 ok => go_for ok hb hB sl1 hs1 k))

/-! ### while -/
def stepW (c : M Bool) (body : St') (t : T) : Sum Fl T := match c t with
  | .ok b t1 => if b = true then (match body t1 with
    | .nx t2 => .inr t2
    | .ct t2 => .inr t2
    | .bk t2 => .inl (.nx t2)
    | f => .inl f)
    else .inl (.nx t1)
  | .exc x xs t => .inl (.exc x xs t)
  | .bad => .inl .bad
def iterW (c : M Bool) (body : St') : Nat → T → Sum Fl T
  | 0, t => .inr t
  | n + 1, t => match stepW c body t with
    | .inl f => .inl f
    | .inr t' => iterW c body n t'
def runW (c : M Bool) (body : St') : Nat → T → Sum Fl T
  | 0, t => stepW c body t
  | d + 1, t => match runW c body d t with
    | .inl f => .inl f
    | .inr t' => runW c body d t'
def sWhile (c : M Bool) (body : St') : St' := fun t => match runW c body 40 t with
  | .inl f => f
  | .inr _ => .bad
theorem iterW_add {c : M Bool} {body : St'} : ∀ (a b : Nat) (t : T), iterW c body (a + b) t = match iterW c body a t with
    | .inl f => .inl f
    | .inr t' => iterW c body b t'
  | 0, b, t => by rw [Nat.zero_add]; rfl
  | a + 1, b, t => by
    rw [show a + 1 + b = (a + b) + 1 by omega]
    show (match stepW c body t with
      | .inl f => Sum.inl f
      | .inr t' => iterW c body (a + b) t') = match (match stepW c body t with
        | .inl f => Sum.inl f
        | .inr t' => iterW c body a t') with
      | .inl f => Sum.inl f
      | .inr t' => iterW c body b t'
    cases stepW c body t with
    | inl f => rfl
    | inr t' => exact iterW_add a b t'
theorem runW_eq {c : M Bool} {body : St'} : ∀ (d : Nat) (t : T), runW c body d t = iterW c body (2 ^ d) t
  | 0, t => by
    show stepW c body t = iterW c body 1 t
    unfold iterW
    cases stepW c body t <;> rfl
  | d + 1, t => by
    rw [Nat.pow_succ, Nat.mul_two, iterW_add]
    unfold runW
    rw [runW_eq d t]
    cases iterW c body (2 ^ d) t with
    | inl f => rfl
    | inr t' => exact runW_eq d t'
/-- through in so many turns -/
theorem sWhile_of {c : M Bool} {body : St'} {n : Nat} {t : T} {f : Fl} (h : iterW c body n t = .inl f) (hn : n ≤ 2 ^ 40) : sWhile c body t = f := by
  unfold sWhile
  rw [runW_eq, show (2 : Nat) ^ 40 = n + (2 ^ 40 - n) by omega, iterW_add, h]
theorem snds_while {c : M Bool} {body : St'} {ec : Expr} {eb : List Stmt} {pos : Pos} (hp : PassesOwn (model X.prog X.w) X.A X.env X.xe) (hc : SndT X C c ec) (hB : SndB X C body eb) : SndS X C (sWhile c body) (.While ec eb [] pos) := fun σ ρ S τρ τ H D sl hs q => by
  refine us_of (ps_while hp pt_u pss_u) ?_
  unfold sWhile at q
  rw [runW_eq] at q
  refine ⟨fun m σ H => ∃ (t : T) (τρ : List (V × GV)), Slots σ t.ρ τρ ∧ Sim C t.S (τρ ++ τ) H ∧ Fl.post (match iterW c body m t with
    | .inl f => f
    | .inr _ => .bad) (wish C τ D), ⟨2 ^ 40, ⟨ρ, S⟩, τρ, sl, hs, q⟩, ?_⟩
  rintro m σ H ⟨t, τρ, sl, hs, q⟩
  cases m with
  | zero => exact q.elim
  | succ m =>
    unfold iterW stepW at q
    refine hc σ t.ρ t.S τρ τ H _ sl hs ?_
    show (c t).post _
    cases e : c t with
    | ok b t1 =>
      rw [e] at q
      intro H1 τρ1 sl1 hs1
      cases b with
      | false => exact q σ H1 τρ1 sl1 hs1
      | true =>
        refine ⟨fun σ' H' => ∃ (t : T) (τρ : List (V × GV)), Slots σ' t.ρ τρ ∧ Sim C t.S (τρ ++ τ) H' ∧ Fl.post (match iterW c body m t with
          | .inl f => f
          | .inr _ => .bad) (wish C τ D), fun σ' H' z => ⟨m, by omega, z⟩, hB σ t1.ρ t1.S τρ1 τ H1 _ sl1 hs1 ?_⟩
        show (body t1).post _
        cases e2 : body t1 with
        | nx t2 => simp only [e2] at q; exact fun σ' H' τρ' s1 s2 => ⟨t2, τρ', s1, s2, q⟩
        | ct t2 => simp only [e2] at q; exact fun σ' H' τρ' s1 s2 => ⟨t2, τρ', s1, s2, q⟩
        | bk t2 => simp only [e2] at q; exact q
        | rt g t2 => simp only [e2] at q; exact q
        | exc => simp only [e2] at q; exact q.elim
        | bad => simp only [e2] at q; exact q.elim
    | exc => rw [e] at q; exact q.elim
    | bad => rw [e] at q; exact q.elim
end
end Mi

set_option Elab.async false
set_option linter.all false
set_option maxRecDepth 100000
set_option maxHeartbeats 4000000
/-! MJ: list comprehensions, parts. -/
namespace Mi
open PySem PySem.Spec PyProof.Rows L2 PySem.W PySem.SeqAt

/-! ### slots hidden -/
def hideG : Option GV → Option GV
  | some (.d x) => some (.d x)
  | _ => none
def wipeR (ρ : List (Option GV)) : List Nat → List (Option GV)
  | [] => ρ
  | v :: vs => (wipeR ρ vs).set v none
def hideR (ρ : List (Option GV)) (vs : List Nat) : List (Option GV) := wipeR (ρ.map hideG) vs
theorem Slots.hide : ∀ {σ : L2.St} {ρ : List (Option GV)} {τ : List (V × GV)}, Slots σ ρ τ → ∃ τh, Slots σ (ρ.map hideG) τh ∧ (∀ q ∈ τh, q ∈ τ) ∧ own τh = []
  | _, _, _, .nil => ⟨[], .nil, fun _ h => h, rfl⟩
  | _, _, _, .no h => by
    obtain ⟨τh, a, b, c⟩ := h.hide
    exact ⟨τh, .no a, b, c⟩
  | _, _, _, .yes (v := v) (g := g) h => by
    obtain ⟨τh, a, b, c⟩ := h.hide
    cases g with
    | d x => exact ⟨(v, .d x) :: τh, .yes a, fun q hq => by
        rcases List.mem_cons.mp hq with rfl | hq
        · exact List.mem_cons_self ..
        · exact List.mem_cons_of_mem _ (b q hq), by rw [own_d]; exact c⟩
    | ob s xs => exact ⟨τh, .no a, fun q hq => List.mem_cons_of_mem _ (b q hq), c⟩
theorem Slots.wipe {σ : L2.St} {ρ : List (Option GV)} : ∀ {vs : List Nat} {τ : List (V × GV)}, Slots σ ρ τ → own τ = [] → ∃ τh, Slots (L2.wipe σ vs) (wipeR ρ vs) τh ∧ (∀ q ∈ τh, q ∈ τ) ∧ own τh = []
  | [], τ, h, ho => ⟨τ, h, fun _ z => z, ho⟩
  | v :: vs, τ, h, ho => by
    obtain ⟨τ1, a, b, c⟩ := Slots.wipe (vs := vs) h ho
    obtain ⟨τ0, τd, p, k⟩ := a.forget (i := v)
    refine ⟨τ0, k none, fun q hq => b q (p.mem_iff.mpr (List.mem_append_right _ hq)), ?_⟩
    have e : own τ1 = own τ1 := rfl
    have z : (own (τd ++ τ0)).Perm (own τ1) := (p.symm.filterMap flA)
    rw [c, own_app] at z
    exact (List.append_eq_nil_iff.mp z.eq_nil).2
theorem Slots.hideR {σ : L2.St} {ρ : List (Option GV)} {τ : List (V × GV)} (vs : List Nat) (h : Slots σ ρ τ) : ∃ τh, Slots (L2.wipe σ vs) (Mi.hideR ρ vs) τh ∧ (∀ q ∈ τh, q ∈ τ) ∧ own τh = [] := by
  obtain ⟨τ1, a, b, c⟩ := h.hide
  obtain ⟨τ2, a2, b2, c2⟩ := Slots.wipe (vs := vs) a c
  exact ⟨τ2, a2, fun q hq => b q (b2 q hq), c2⟩
/-- entries without one's own may be held besides -/
theorem Sim.hold {C : Cn} {S : List Ob} {τ τh : List (V × GV)} {H : Hp} (h : Sim C S τ H) (hm : ∀ q ∈ τh, q ∈ τ) (ho : own τh = []) : Sim C S (τh ++ τ) H := h.re (fun q hq => (List.mem_append.mp hq).elim (hm q) id) fun a => by
  rw [own_app, ho]; exact Nat.le_refl _

/-! ### list comprehensions -/
def lcL (b : GV → M Unit) (cd : M Bool) (el : M GV) (ρh : List (Option GV)) : List D → List D → List Ob → Rc
  | [], acc, S => .ok (.fl acc) S
  | x :: xs, acc, S => match b (.d x) ⟨ρh, S⟩ with
    | .ok _ t1 => (match cd t1 with
      | .ok k t2 => if k = true then (match vl el t2 with
        | .ok y t3 => if acc.length < lim then lcL b cd el ρh xs (acc ++ [y]) t3.S else .bad
        | .exc x xs t => .exc x xs t.S
        | .bad => .bad)
        else lcL b cd el ρh xs acc t2.S
      | .exc x xs t => .exc x xs t.S
      | .bad => .bad)
    | .exc x xs t => .exc x xs t.S
    | .bad => .bad
def cLc (src : M (List D)) (b : GV → M Unit) (cd : M Bool) (el : M GV) (vs : List Nat) : M GV := fun t => (src t).bind fun xs t1 => match lcL b cd el (hideR t1.ρ vs) xs [] t1.S with
  | .ok g S => .ok g ⟨t1.ρ, S⟩
  | .exc x xs S => .exc x xs ⟨t1.ρ, S⟩
  | .bad => .bad
def tYesM : M Bool := fun t => .ok true t
/-- the tests of a comprehension -/
def UTs (X : Cx) (ifs : List Expr) : TT := fun σ H Q => ∀ pins s, Inv X pins σ H s →
    wpAny (model X.prog X.w) X.A (forIn ifs true fun c r => if r = true then do let ok ← isTrue c X.env (eval c X.env); pure (ForInStep.yield ok) else pure (ForInStep.yield r)) (TP X pins σ Q) X.xe s
theorem pts_u {X : Cx} {ifs : List Expr} : PTs X ifs (UTs X ifs) := ⟨fun pins s σ H Q I h => h pins s I⟩
def SndTs (X : Cx) (C : Cn) (c : M Bool) (ifs : List Expr) : Prop := ∀ (σ : L2.St) (ρ : List (Option GV)) (S : List Ob) (τρ τ : List (V × GV)) (H : Hp) (Q : Bool → Hp → Prop), Slots σ ρ τρ → Sim C S (τρ ++ τ) H →
  (c ⟨ρ, S⟩).post (fun b t => ∀ H' τρ', Slots σ t.ρ τρ' → Sim C t.S (τρ' ++ τ) H' → Q b H') → UTs X ifs σ H Q
theorem sndts_nil {X : Cx} {C : Cn} : SndTs X C tYesM [] := fun σ ρ S τρ τ H Q sl hs q pins s I => pts_nil.run pins s σ H Q I (q H τρ sl hs)
theorem sndts_one {X : Cx} {C : Cn} {c : M Bool} {e : Expr} (h : SndT X C c e) : SndTs X C c [e] := fun σ ρ S τρ τ H Q sl hs q pins s I => (pts_one pt_u).run pins s σ H Q I (h σ ρ S τρ τ H Q sl hs q)
theorem wipe_get {σ : L2.St} {j : Nat} : ∀ {vs : List Nat}, (L2.wipe σ vs)[j]? = if j ∈ vs then (σ[j]?).map (fun _ => none) else σ[j]?
  | [] => by simp [L2.wipe]
  | v :: vs => by
    show ((L2.wipe σ vs).set v none)[j]? = _
    have ih := wipe_get (σ := σ) (j := j) (vs := vs)
    have hlen : (L2.wipe σ vs).length = σ.length := wipe_length σ vs
    rw [List.getElem?_set]
    by_cases h : v = j
    · subst h
      rw [if_pos rfl, if_pos (List.mem_cons_self ..)]
      by_cases hl : v < σ.length
      · rw [if_pos (by rw [hlen]; exact hl), List.getElem?_eq_getElem hl]; rfl
      · rw [if_neg (by rw [hlen]; exact hl), List.getElem?_eq_none (by omega)]; rfl
    · rw [if_neg h, ih]
      have : j ≠ v := fun z => h z.symm
      simp [this]
theorem wipe_set {σ : L2.St} {i : Nat} {o : Option V} {vs : List Nat} (h : i ∈ vs) : L2.wipe (σ.set i o) vs = L2.wipe σ vs := by
  apply List.ext_getElem?
  intro j
  rw [wipe_get, wipe_get]
  by_cases hj : j ∈ vs
  · rw [if_pos hj, if_pos hj]
    by_cases e : i = j
    · subst e
      rw [List.getElem?_set]
      rw [if_pos rfl]
      by_cases hl : i < σ.length
      · rw [if_pos hl, List.getElem?_eq_getElem hl]; rfl
      · rw [if_neg hl, List.getElem?_eq_none (by omega)]
    · rw [List.getElem?_set_ne e]
  · rw [if_neg hj, if_neg hj, List.getElem?_set_ne (show i ≠ j from fun z => hj (by rw [← z]; exact h))]
/-- a target's reading, its stores all in vs -/
def BndOk (C : Cn) (t : TG) (b : GV → M Unit) (vs : List Nat) : Prop := ∀ (σ : L2.St) (ρ : List (Option GV)) (S : List Ob) (τρ τ : List (V × GV)) (H : Hp) (v : V) (g : GV) (Q : L2.St → Hp → Prop), Slots σ ρ τρ → Sim C S ((v, g) :: (τρ ++ τ)) H →
  (b g ⟨ρ, S⟩).post (fun _ t' => ∀ σ' H' τρ', L2.wipe σ' vs = L2.wipe σ vs → Slots σ' t'.ρ τρ' → Sim C t'.S (τρ' ++ τ) H' → Q σ' H') → t v σ H Q
def BndsOk (C : Cn) (t : TGs) (b : List D → M Unit) (vs : List Nat) : Prop := ∀ (σ : L2.St) (ρ : List (Option GV)) (S : List Ob) (τρ τ : List (V × GV)) (H : Hp) (us : List V) (xs : List D) (Q : L2.St → Hp → Prop), Slots σ ρ τρ → us.length = xs.length → Sim C S (τρ ++ (us.zip (xs.map GV.d) ++ τ)) H →
  (b xs ⟨ρ, S⟩).post (fun _ t' => ∀ σ' H' τρ', L2.wipe σ' vs = L2.wipe σ vs → Slots σ' t'.ρ τρ' → Sim C t'.S (τρ' ++ τ) H' → Q σ' H') → t us σ H Q
section
variable {X : Cx} {C : Cn} {tg : Expr} {vs : List Nat}
theorem bnd_name {i : Nat} {k : Kind} (hi : i ∈ vs) : BndOk C (gName i) (gNm i k) vs := fun σ ρ S τρ τ H v g Q sl hs q => by
  have q' : (if i < ρ.length then R.ok () ⟨ρ.set i (some (keepAs k g S).1), (keepAs k g S).2⟩ else R.bad).post _ := q
  split at q'
  · rename_i hl
    obtain ⟨τ', h1, h2⟩ := put_slot sl (hs.keepAs k) hl
    exact q' (σ.set i (some v)) H τ' (wipe_set hi) h1 h2
  · exact q'.elim
theorem bnds_nil : BndsOk C gNil gsNil vs := fun σ ρ S τρ τ H us xs Q sl hl hs q => by
  cases xs with
  | nil =>
    cases us with
    | nil => exact ⟨rfl, q σ H τρ rfl sl hs⟩
    | cons _ _ => simp at hl
  | cons _ _ => exact q.elim
theorem bnds_cons {t : TG} {u : TGs} {b : GV → M Unit} {r : List D → M Unit} (hb : BndOk C t b vs) (hr : BndsOk C u r vs) : BndsOk C (gCons t u) (gsCons b r) vs := fun σ ρ S τρ τ H us xs Q sl hl hs q => by
  cases xs with
  | nil => exact q.elim
  | cons x xs =>
    cases us with
    | nil => simp at hl
    | cons v us =>
      refine ⟨v, us, rfl, ?_⟩
      have hs1 : Sim C S ((v, GV.d x) :: (τρ ++ (us.zip (xs.map GV.d) ++ τ))) H := Sim.front hs
      refine hb σ ρ S τρ _ H v (.d x) _ sl hs1 (R.post_imp (R.post_bind.mp q) fun _ t1 k σ1 H1 τρ1 w1 sl1 hs2 => ?_)
      exact hr σ1 t1.ρ t1.S τρ1 τ H1 us xs Q sl1 (by simpa using hl) hs2 (R.post_imp k fun _ t2 k2 σ2 H2 τρ2 w2 => k2 σ2 H2 τρ2 (w2.trans w1))
theorem bnd_tup {u : TGs} {b : List D → M Unit} {n : Nat} (hb : BndsOk C u b vs) : BndOk C (gTL C.K n u) (gTp n b) vs := fun σ ρ S τρ τ H v g Q sl hs q => by
  obtain ⟨xs, ex, hl, q⟩ := gTp_post q
  obtain ⟨a, us, rfl, h1, h2, h3⟩ := row_inv hs.toD ex
  have fin : u us σ H Q := by
    refine hb σ ρ S τρ τ H us xs Q sl h2 ?_ q
    refine h3.re (fun x hx => ?_) fun a => ?_
    · simp only [List.mem_append] at hx ⊢
      rcases hx with h | h | h
      · exact .inl (.inl h)
      · exact .inr h
      · exact .inl (.inr h)
    · simp only [own_app, own_zip, List.count_append, List.nil_append, List.append_nil, List.count_nil]; omega
  rcases h1 with h1 | h1
  · exact .inl ⟨a, us, rfl, h1, by rw [h2]; exact hl, fin⟩
  · exact .inr ⟨a, us, rfl, h1, by rw [h2]; exact hl, fin⟩
/-- a block's context -/
abbrev blkX (X : Cx) (scope : Scope) (s : Shared) (H : Hp) (C' : Addr) (cl : List (Str × Addr)) (fp : List Addr) : Cx := X.blk s H scope (compEnvC scope cl C' X.env) fp
def UTsB (X : Cx) (scope : Scope) (ifs : List Expr) : TT := fun σ H Q => ∀ (s : Shared) (H' : Hp) (C' : Addr) (cl : List (Str × Addr)) (fp : List Addr), UTs (blkX X scope s H' C' cl fp) ifs σ H Q
def UEB (X : Cx) (scope : Scope) (e : Expr) : TE := fun σ H Q => ∀ (s : Shared) (H' : Hp) (C' : Addr) (cl : List (Str × Addr)) (fp : List Addr), UE (blkX X scope s H' C' cl fp) e σ H Q
theorem ptsB {scope : Scope} {ifs : List Expr} (s : Shared) (H : Hp) (C' : Addr) (cl : List (Str × Addr)) (fp : List Addr) : PTs (blkX X scope s H C' cl fp) ifs (UTsB X scope ifs) := ⟨fun pins s' σ H' Q I h => pts_u.run pins s' σ H' Q I (h s H C' cl fp)⟩
theorem peB {scope : Scope} {e : Expr} (s : Shared) (H : Hp) (C' : Addr) (cl : List (Str × Addr)) (fp : List Addr) : PE (blkX X scope s H C' cl fp) e (UEB X scope e) := ⟨fun pins s' σ H' Q I h => pe_u.run pins s' σ H' Q I (h s H C' cl fp)⟩
/-- the turns of a comprehension of one for -/
theorem go_lc {src : M (List D)} {b : GV → M Unit} {cd : M Bool} {el : M GV} {g : TG} {elt iter : Expr} {ifs : List Expr} {scope : Scope} {own' : List (Str × Nat)} (hi : SndI X C src tg iter) (hb : BndOk C g b (own'.map (·.2)))
    (ht : ∀ (s : Shared) (H : Hp) (C' : Addr) (cl : List (Str × Addr)) (fp : List Addr), SndTs (blkX X scope s H C' cl fp) C cd ifs)
    (he : ∀ (s : Shared) (H : Hp) (C' : Addr) (cl : List (Str × Addr)) (fp : List Addr), Snd (blkX X scope s H C' cl fp) C el elt)
    {σ : L2.St} {ρ : List (Option GV)} {S : List Ob} {τρ τ : List (V × GV)} {H : Hp} {Q : VK} (sl : Slots σ ρ τρ) (hs : Sim C S (τρ ++ τ) H)
    (q : (cLc src b cd el (own'.map (·.2)) ⟨ρ, S⟩).post fun g t => ∀ v H' τρ', Slots σ t.ρ τρ' → Sim C t.S ((v, g) :: (τρ' ++ τ)) H' → Q v H') : tLc (UI X tg iter) g (UTsB X scope ifs) (UEB X scope elt) (own'.map (·.2)) σ H Q := by
  refine hi σ ρ S τρ τ H _ sl hs (R.post_imp (R.post_bind.mp q) fun xs t k J H1 τρ1 τh sl1 oh hs1 iok => ?_)
  intro Dl hD
  obtain ⟨τw, slw, mw, ow⟩ := sl1.hideR (own'.map (·.2))
  -- the turns
  have k' : (lcL b cd el (hideR t.ρ (own'.map (·.2))) xs [] t.S).post fun g S => ∀ v H' τρ', Slots σ t.ρ τρ' → Sim C S ((v, g) :: (τρ' ++ τ)) H' → Q v H' := by
    cases e : lcL b cd el (hideR t.ρ (own'.map (·.2))) xs [] t.S with
    | ok g S' => rw [e] at k; exact k
    | exc => rw [e] at k; exact k.elim
    | bad => rw [e] at k; exact k.elim
  let rest := τh ++ (τρ1 ++ τ)
  refine ⟨fun i m H' => m = xs.length - i ∧ i ≤ xs.length ∧ ∃ (acc : List D) (S' : List Ob), Sim C S' ((.ref Dl, .fl acc) :: (τw ++ rest)) H' ∧
    (lcL b cd el (hideR t.ρ (own'.map (·.2))) (xs.drop i) acc S').post fun g S => ∀ v H' τρ', Slots σ t.ρ τρ' → Sim C S ((v, g) :: (τρ' ++ τ)) H' → Q v H', ⟨xs.length, rfl, Nat.zero_le _, [], t.S, ?_, k'⟩, ?_⟩
  · have z : Sim C t.S (τw ++ rest) H1 := Sim.hold (hs1.perm (by
      show (τh ++ (τρ1 ++ τ)).Perm (τρ1 ++ (τh ++ τ))
      rw [← List.append_assoc, ← List.append_assoc]
      exact List.perm_append_comm.append_right τ)) (fun q hq => List.mem_append_right _ (List.mem_append_left _ (mw q hq))) ow
    exact Sim.newLst (vs := []) (xs := []) z rfl hD
  · rintro i m H' ⟨rfl, hi', acc, S', hs', q'⟩
    have hm : ∀ q ∈ τh, q ∈ (V.ref Dl, GV.fl acc) :: (τw ++ rest) := fun q hq => List.mem_cons_of_mem _ (List.mem_append_right _ (List.mem_append_left _ hq))
    by_cases hl : i < xs.length
    · have hd : xs.drop i = xs[i] :: xs.drop (i + 1) := List.drop_eq_getElem_cons hl
      rw [hd] at q'
      refine .inr ⟨iok.go i S' _ H' hl hs' hm, fun H'' => ∃ (acc : List D) (S' : List Ob), Sim C S' ((.ref Dl, .fl acc) :: (τw ++ rest)) H'' ∧
        (lcL b cd el (hideR t.ρ (own'.map (·.2))) (xs.drop (i + 1)) acc S').post fun g S => ∀ v H' τρ', Slots σ t.ρ τρ' → Sim C S ((v, g) :: (τρ' ++ τ)) H' → Q v H', fun H'' ⟨acc', S'', z1, z2⟩ => ⟨xs.length - (i + 1), by omega, rfl, hl, acc', S'', z1, z2⟩, fun v H'' hy => ?_⟩
      have hs2 := iok.yld i xs[i] S' _ H' v H'' (List.getElem?_eq_getElem hl) hs' hm hy
      -- the rest that is held while the block runs
      let keep := (V.ref Dl, GV.fl acc) :: (τw ++ rest)
      have hs3 : Sim C S' ((v, GV.d xs[i]) :: (τw ++ keep)) H'' := (hs2.re (τ' := (v, GV.d xs[i]) :: (τw ++ keep)) (fun x hx => by
        rcases List.mem_cons.mp hx with h | h
        · exact List.mem_cons.mpr (.inl h)
        · rcases List.mem_append.mp h with h | h
          · exact List.mem_cons_of_mem _ (List.mem_cons_of_mem _ (List.mem_append_left _ h))
          · exact List.mem_cons_of_mem _ h) fun a => by rw [own_d, own_d, own_app, ow]; exact Nat.le_refl _)
      unfold lcL at q'
      have p0 : (b (.d xs[i]) ⟨hideR t.ρ (own'.map (·.2)), S'⟩).post fun _ t1 => Rc.post (match cd t1 with
        | .ok k t2 => if k = true then (match vl el t2 with
          | .ok y t3 => if acc.length < lim then lcL b cd el (hideR t.ρ (own'.map (·.2))) (xs.drop (i + 1)) (acc ++ [y]) t3.S else .bad
          | .exc x xs t => .exc x xs t.S
          | .bad => .bad)
          else lcL b cd el (hideR t.ρ (own'.map (·.2))) (xs.drop (i + 1)) acc t2.S
        | .exc x xs t => .exc x xs t.S
        | .bad => .bad) fun g S => ∀ v H' τρ', Slots σ t.ρ τρ' → Sim C S ((v, g) :: (τρ' ++ τ)) H' → Q v H' := by
        cases e : b (.d xs[i]) ⟨hideR t.ρ (own'.map (·.2)), S'⟩ with
        | ok a t1 => rw [e] at q'; exact q'
        | exc => rw [e] at q'; exact q'.elim
        | bad => rw [e] at q'; exact q'.elim
      refine hb (L2.wipe σ (own'.map (·.2))) _ S' τw keep H'' v (.d xs[i]) _ slw hs3 (R.post_imp p0 fun _ t1 k1 σ2 H2 τρ2 w2 sl2 hs4 => ?_)
      refine ⟨w2.trans (by
        apply List.ext_getElem?
        intro j
        rw [wipe_get, wipe_get]
        by_cases hj : j ∈ own'.map (·.2)
        · rw [if_pos hj, if_pos hj]; cases σ[j]? <;> rfl
        · rw [if_neg hj]), ?_⟩
      intro s0 H0 C0 cl0 fp0
      have p1 : (cd t1).post fun k t2 => Rc.post (if k = true then (match vl el t2 with
          | .ok y t3 => if acc.length < lim then lcL b cd el (hideR t.ρ (own'.map (·.2))) (xs.drop (i + 1)) (acc ++ [y]) t3.S else .bad
          | .exc x xs t => .exc x xs t.S
          | .bad => .bad)
          else lcL b cd el (hideR t.ρ (own'.map (·.2))) (xs.drop (i + 1)) acc t2.S) fun g S => ∀ v H' τρ', Slots σ t.ρ τρ' → Sim C S ((v, g) :: (τρ' ++ τ)) H' → Q v H' := by
        cases e : cd t1 with
        | ok a t2 => rw [e] at k1; exact k1
        | exc => rw [e] at k1; exact k1.elim
        | bad => rw [e] at k1; exact k1.elim
      refine ht s0 H0 C0 cl0 fp0 σ2 t1.ρ t1.S τρ2 keep H2 _ sl2 hs4 (R.post_imp p1 fun kb t2 k2 H3 τρ3 sl3 hs5 => ?_)
      cases kb with
      | false => exact ⟨acc, t2.S, hs5.right, k2⟩
      | true =>
        show UEB X scope elt σ2 H3 _
        intro s1 H4 C1 cl1 fp1
        have p2 : (vl el t2).post fun y t3 => Rc.post (if acc.length < lim then lcL b cd el (hideR t.ρ (own'.map (·.2))) (xs.drop (i + 1)) (acc ++ [y]) t3.S else .bad) fun g S => ∀ v H' τρ', Slots σ t.ρ τρ' → Sim C S ((v, g) :: (τρ' ++ τ)) H' → Q v H' := by
          have k2' : Rc.post (match vl el t2 with
            | .ok y t3 => if acc.length < lim then lcL b cd el (hideR t.ρ (own'.map (·.2))) (xs.drop (i + 1)) (acc ++ [y]) t3.S else .bad
            | .exc x xs t => .exc x xs t.S
            | .bad => .bad) fun g S => ∀ v H' τρ', Slots σ t.ρ τρ' → Sim C S ((v, g) :: (τρ' ++ τ)) H' → Q v H' := k2
          cases e : vl el t2 with
          | ok a t3 => rw [e] at k2'; exact k2'
          | exc => rw [e] at k2'; exact k2'.elim
          | bad => rw [e] at k2'; exact k2'.elim
        refine (he s1 H4 C1 cl1 fp1).vl sl3 hs5 (R.post_imp p2 fun y t3 k3 u H5 τρ4 sl4 hs6 => ?_)
        split at k3
        · rename_i hlim
          have hs7 : Sim C t3.S ((V.ref Dl, GV.fl acc) :: ((u, GV.d y) :: (τw ++ rest))) H5 := hs6.re (fun x hx => by
            simp only [List.mem_append, List.mem_cons, keep] at hx ⊢
            rcases hx with h | h | h
            · exact .inr (.inr (.inl h))
            · exact .inl h
            · exact .inr (.inr (.inr h))) fun a => by
            rw [show (V.ref Dl, GV.fl acc) :: ((u, GV.d y) :: (τw ++ rest)) = [(V.ref Dl, GV.fl acc)] ++ ((u, GV.d y) :: (τw ++ rest)) from rfl]
            show List.count a (own ([(V.ref Dl, GV.fl acc)] ++ ((u, GV.d y) :: (τw ++ rest)))) ≤ List.count a (own ((u, GV.d y) :: (τρ4 ++ ([(V.ref Dl, GV.fl acc)] ++ (τw ++ rest)))))
            simp only [own_app, own_d, List.count_append]; omega
          obtain ⟨a, us, e1, h1, h2, h3⟩ := hs7.fl_inv
          cases e1
          refine ⟨us, h1, by rw [h2]; exact lim_lt hlim, acc ++ [y], t3.S, ?_, k3⟩
          obtain ⟨F, m, ok3⟩ := h3
          have r1 : RpL C F m us acc := ok3.rows h2 fun q hq => List.mem_append_left _ hq
          have r2 : Rp C F m u y := ok3.get (List.mem_append_right _ (List.mem_cons_of_mem _ (List.mem_cons_self ..)))
          have r3 : RpL C F m (us ++ [u]) (acc ++ [y]) := r1.app (.cons r2 .nil)
          have ok4 : Ok C F m t3.S ((V.ref Dl, GV.fl acc) :: (τw ++ rest)) H5 := ok3.re (fun x hx => by
            simp only [List.mem_append, List.mem_cons] at hx ⊢
            rcases hx with h | h
            · exact .inr (.inl h)
            · exact .inr (.inr (.inr h))) fun a => by
            rw [own_app, own_zip, List.nil_append]
            show List.count a (own ([(V.ref Dl, GV.fl acc)] ++ (τw ++ rest))) ≤ List.count a (own ([(V.ref Dl, GV.fl acc)] ++ ((u, GV.d y) :: (τw ++ rest))))
            simp only [own_app, own_d, List.count_append]; omega
          refine Sim.setOwn (xs := acc) ?_ (by simp [h2])
          exact (ok4.adds r3).sim.re (fun x hx => by
            simp only [List.mem_append, List.mem_cons] at hx ⊢
            rcases hx with h | h | h
            · exact .inr (.inl h)
            · exact .inl h
            · exact .inr (.inr h)) fun a => by
            show List.count a (own ([(V.ref Dl, GV.fl acc)] ++ ((us ++ [u]).zip (List.map GV.d (acc ++ [y])) ++ (τw ++ rest)))) ≤ List.count a (own ((us ++ [u]).zip (List.map GV.d (acc ++ [y])) ++ ([(V.ref Dl, GV.fl acc)] ++ (τw ++ rest))))
            simp only [own_app, own_zip, List.count_append]; omega
        · exact k3.elim
    · have he' : i = xs.length := by omega
      subst he'
      rw [List.drop_length] at q'
      refine .inl ⟨iok.stop S' _ H' hs' hm, q' (.ref Dl) H' τρ1 sl1 (hs'.re (fun x hx => ?_) fun a => ?_)⟩
      · simp only [List.mem_append, List.mem_cons, rest] at hx ⊢
        rcases hx with h | h
        · exact .inl h
        · exact .inr (.inr (.inr h))
      · show List.count a (own ([(V.ref Dl, GV.fl acc)] ++ (τρ1 ++ τ))) ≤ List.count a (own ([(V.ref Dl, GV.fl acc)] ++ (τw ++ (τh ++ (τρ1 ++ τ)))))
        simp only [own_app, List.count_append]; omega
/-- one comprehension of one for -/
theorem snd_lc {src : M (List D)} {b : GV → M Unit} {cd : M Bool} {el : M GV} {g : TG} {elt iter : Expr} {ifs : List Expr} {scope : Scope} {own' : List (Str × Nat)} {pos : Pos} (hc : X.calm = true) (hN : X.N.Nodup) (hi : SndI X C src tg iter) (ok : BlkOk X.N X.env.scope scope own')
    (hg : ∀ (s : Shared) (H : Hp) (C' : Addr) (cl : List (Str × Addr)) (fp : List Addr), PG (blkX X scope s H C' cl fp) tg g) (hb : BndOk C g b (own'.map (·.2)))
    (ht : ∀ (s : Shared) (H : Hp) (C' : Addr) (cl : List (Str × Addr)) (fp : List Addr), SndTs (blkX X scope s H C' cl fp) C cd ifs)
    (he : ∀ (s : Shared) (H : Hp) (C' : Addr) (cl : List (Str × Addr)) (fp : List Addr), Snd (blkX X scope s H C' cl fp) C el elt)
    (hf : (match iter with | .Set _ _ _ => false | _ => true) = true) : Snd X C (cLc src b cd el (own'.map (·.2))) (.ListComp elt [⟨tg, iter, ifs, 0⟩] scope pos) := fun σ ρ S τρ τ H Q sl hs q =>
  ue_of (pe_lc hc hN pi_u ok hg ptsB peB (isFold_no hf)) (go_lc hi hb ht he sl hs q)
/-- x = [..], stored within the block's frame -/
theorem snds_lc {src : M (List D)} {b : GV → M Unit} {cd : M Bool} {el : M GV} {g : TG} {elt iter : Expr} {ifs : List Expr} {scope : Scope} {own' : List (Str × Nat)} {pos spos : Pos} {i : Nat} {k : Kind} {y : Str} {py : Pos} (hc : X.calm = true) (hN : X.N.Nodup) (hy : X.N[i]? = some y) (hyl : X.env.scope.names.lookup y = some .local)
    (hsw : swapsWith (.ListComp elt [⟨tg, iter, ifs, 0⟩] scope pos) (some (.Name y py)) spos.line X.env = pure true) (hi : SndI X C src tg iter) (ok : BlkOk X.N X.env.scope scope own')
    (hg : ∀ (s : Shared) (H : Hp) (C' : Addr) (cl : List (Str × Addr)) (fp : List Addr), PG (blkX X scope s H C' cl fp) tg g) (hb : BndOk C g b (own'.map (·.2)))
    (ht : ∀ (s : Shared) (H : Hp) (C' : Addr) (cl : List (Str × Addr)) (fp : List Addr), SndTs (blkX X scope s H C' cl fp) C cd ifs)
    (he : ∀ (s : Shared) (H : Hp) (C' : Addr) (cl : List (Str × Addr)) (fp : List Addr), Snd (blkX X scope s H C' cl fp) C el elt)
    (hf : (match iter with | .Set _ _ _ => false | _ => true) = true) : SndS X C (sAsg (gNm i k) (cLc src b cd el (own'.map (·.2)))) (.Assign [.Name y py] (.ListComp elt [⟨tg, iter, ifs, 0⟩] scope pos) spos) := fun σ ρ S τρ τ H D sl hs q =>
  us_of (ps_setLc hc hN hy hyl hsw pi_u ok hg ptsB peB (isFold_no hf)) (by
    show tLc _ _ _ _ _ σ H fun x H1 => gName i x σ H1 D.nx
    refine go_lc hi hb ht he sl hs (R.post_imp (R.post_fl q) fun g t k v H1 τρ1 sl1 hs1 => ?_)
    obtain ⟨t', τ', s1, z1, k1⟩ := go_name (α := Unit) sl1 hs1 k
    exact k1 _ H1 τ' s1 z1)
end
end Mi

set_option Elab.async false
set_option linter.all false
set_option maxRecDepth 100000
set_option maxHeartbeats 4000000
/-! MK: parts, sorted, isinstance. -/
namespace Mi
open PySem PySem.Spec PyProof.Rows L2 PySem.W PySem.SeqAt
section
variable {X : Cx} {C : Cn}

/-! ### parts -/
def optE (c : Option (M GV)) : M (Option Int) := match c with
  | none => fun t => .ok none t
  | some c => fun t => (vl c t).bind fun x t1 => match x with
    | .int i => .ok (some i) t1
    | _ => .bad
def cCut (a : Opd) (lo hi : Option (M GV)) : M GV := fun t => (a.first t).bind fun x t1 => (optE lo t1).bind fun l t2 => (optE hi t2).bind fun h t3 => match a.late x t3 with
  | some y => (match fCut t3.S y l h with
    | some g => .ok g t3
    | none => .bad)
  | none => .bad
def UO (X : Cx) (e : Option Expr) : TO := fun σ H Q => ∀ pins s, Inv X pins σ H s → wpAny (model X.prog X.w) X.A (evalPart e X.env) (fun u s' => ∃ o H', Inv X pins σ H' s' ∧ IsPart u o ∧ Q o H') X.xe s
theorem po_u {e : Option Expr} : PO X e (UO X e) := ⟨fun pins s σ H Q I h => h pins s I⟩
def SndOp (X : Cx) (C : Cn) (c : Option (M GV)) (e : Option Expr) : Prop := ∀ (σ : L2.St) (ρ : List (Option GV)) (S : List Ob) (τρ τ : List (V × GV)) (H : Hp) (Q : Option Int → Hp → Prop), Slots σ ρ τρ → Sim C S (τρ ++ τ) H →
  (optE c ⟨ρ, S⟩).post (fun o t => ∀ H' τρ', Slots σ t.ρ τρ' → Sim C t.S (τρ' ++ τ) H' → Q o H') → UO X e σ H Q
theorem sndop_none : SndOp X C none none := fun σ ρ S τρ τ H Q sl hs q pins s I => po_none.run pins s σ H Q I (q H τρ sl hs)
theorem sndop_some {c : M GV} {e : Expr} (h : Snd X C c e) : SndOp X C (some c) (some e) := fun σ ρ S τρ τ H Q sl hs q pins s I => (po_some pe_u).run pins s σ H Q I (h.vl sl hs (R.post_imp (R.post_bind.mp q) fun x t k v H1 τρ1 sl1 hs1 => by
  split at k
  · cases hs1.int_inv
    exact ⟨_, rfl, k H1 τρ1 sl1 hs1.tail⟩
  · exact k.elim))
theorem snd_cut {a : Opd} {lo hi : Option (M GV)} {e : Expr} {el eh : Option Expr} {pos p2 : Pos} (hK : C.K = X.K) (ha : SndO X C a e) (hl : SndOp X C lo el) (hh : SndOp X C hi eh) : Snd X C (cCut a lo hi) (.Subscript e (.Slice el eh none p2) pos) := fun σ ρ S τρ τ H Q sl hs q => by
  refine ue_of (pe_slice sl_M pe_u po_u po_u) ?_
  refine ha.go sl hs (R.post_imp (R.post_bind.mp q) fun x t1 k1 v H1 τρ1 τ1 sl1 hs1 late => ?_)
  refine hl σ t1.ρ t1.S τρ1 (τ1 ++ τ) H1 _ sl1 hs1 (R.post_imp (R.post_bind.mp k1) fun l t2 k2 H2 τρ2 sl2 hs2 => ?_)
  refine hh σ t2.ρ t2.S τρ2 (τ1 ++ τ) H2 _ sl2 hs2 (R.post_imp (R.post_bind.mp k2) fun h t3 k3 H3 τρ3 sl3 hs3 => ?_)
  split at k3
  · rename_i y ey
    split at k3
    · rename_i g eg
      obtain ⟨F, m, ok⟩ := hs3
      have b := late t3 H3 τρ3 [] y F m sl3 ok ey
      rw [← hK]
      exact ok_cut ok b eg fun w H' hs4 => k3 w H' τρ3 sl3 hs4.mid
    · exact k3.elim
  · exact k3.elim

/-! ### sorted -/
def leD : D → D → Bool := dataLe (β := D) false id
def insD (a : D) : List D → List D
  | [] => [a]
  | b :: l => if leD a b then a :: b :: l else b :: insD a l
def sortD (xs : List D) : List D := xs.foldr insD []
def alikeB (xs : List D) : Bool := xs.all fun x => xs.all fun y => alike x y
def sortableB (xs : List D) : Bool := (xs.all fun x => match x with
  | .tuple (_ :: _) => true
  | _ => false) || xs.all fun x => match x with
  | .none => false
  | .tuple _ => false
  | _ => true
theorem leD_total : TotalLe leD := sortLe_total (listOrd itemOrd) false fun b : D => keyToks (id b)
theorem leD_or (a b : D) : (leD a b || leD b a) = true := by
  rw [Bool.or_eq_true]; exact leD_total.total a b
theorem insD_mid (a : D) : ∀ (l1 l2 : List D), (∀ b ∈ l1, leD a b = false) → (∀ b ∈ l2.head?, leD a b = true) → insD a (l1 ++ l2) = l1 ++ a :: l2
  | [], [], _, _ => rfl
  | [], b :: l2, _, h => by
    show (if leD a b then a :: b :: l2 else b :: insD a l2) = _
    rw [if_pos (h b rfl)]; rfl
  | c :: l1, l2, h1, h2 => by
    show (if leD a c then a :: c :: (l1 ++ l2) else c :: insD a (l1 ++ l2)) = _
    rw [if_neg (by rw [h1 c (List.mem_cons_self ..)]; decide), insD_mid a l1 l2 (fun b hb => h1 b (List.mem_cons_of_mem _ hb)) h2]
    rfl
theorem sortD_eq : ∀ xs : List D, xs.mergeSort leD = sortD xs
  | [] => by simp [sortD]
  | a :: xs => by
    obtain ⟨l1, l2, e1, e2, e3⟩ := List.mergeSort_cons (le := leD) (fun a b c h1 h2 => leD_total.trans a b c h1 h2) leD_or a xs
    have ih := sortD_eq xs
    show _ = insD a (sortD xs)
    rw [← ih, e1, e2, insD_mid a l1 l2 (fun b hb => by simpa using e3 b hb) ?_]
    intro b hb
    have hs := List.pairwise_mergeSort (le := leD) (fun a b c h1 h2 => leD_total.trans a b c h1 h2) leD_or (a :: xs)
    rw [e1] at hs
    cases l2 with
    | nil => cases hb
    | cons c l2 =>
      cases hb
      exact (List.pairwise_cons.mp (List.pairwise_append.mp hs).2.1).1 _ (List.mem_cons_self ..)
/-- R of the values and the data, item by item -/
def rSortD (K : PySem.W.Frag) : List V → Hp → VK → Prop := fun us H Q => ∃ (a : Addr) (vs : List V) (xs : List D) (Rr : V → D → Prop), us = [V.ref a] ∧ H a = some (.lst vs) ∧ EachIs Rr vs xs ∧ (∀ v x, x ∈ xs → Rr v x → Dp K H v x) ∧ alikeB xs = true ∧ sortableB xs = true ∧ xs.length ≤ lim ∧ (∀ x ∈ xs, x.depth ≤ 150) ∧
  ∀ (p : Addr) (ws : List V), H p = none → EachIs Rr ws (sortD xs) → Q (.ref p) (upd H p (.lst ws))
theorem each_len {α β : Type} {Rr : α → β → Prop} : ∀ {xs : List α} {ys : List β}, EachIs Rr xs ys → xs.length = ys.length
  | _, _, .nil => rfl
  | _, _, .cons _ t => congrArg Nat.succ (each_len t)
theorem each_vals {Rr : V → D → Prop} : ∀ {vs : List V} {us : List Value} {xs : List D}, Vals vs us → EachIs Rr vs xs → EachIs (fun u x => ∃ v, RelV v u ∧ Rr v x) us xs
  | _, _, _, .nil, .nil => .nil
  | _, _, _, .cons r t, .cons h l => .cons ⟨_, r, h⟩ (each_vals t l)
theorem vals_each {Rr : V → D → Prop} : ∀ {us : List Value} {xs : List D}, EachIs (fun u x => ∃ v, RelV v u ∧ Rr v x) us xs → ∃ vs, Vals vs us ∧ EachIs Rr vs xs
  | _, _, .nil => ⟨[], .nil, .nil⟩
  | _, _, .cons ⟨v, r, h⟩ t => by
    obtain ⟨vs, a, b⟩ := vals_each t
    exact ⟨v :: vs, .cons r a, .cons h b⟩
theorem each_imp {α β : Type} {Rr Rs : α → β → Prop} : ∀ {xs : List α} {ys : List β}, EachIs Rr xs ys → (∀ a b, b ∈ ys → Rr a b → Rs a b) → EachIs Rs xs ys
  | _, _, .nil, _ => .nil
  | _, _, .cons h t, f => .cons (f _ _ (List.mem_cons_self ..) h) (each_imp t fun a b m => f a b (List.mem_cons_of_mem _ m))
theorem alikeB_of {xs : List D} (h : alikeB xs = true) : AllAlike (xs.map id) := by
  rw [List.map_id]
  intro d hd d' hd'
  exact List.all_eq_true.mp (List.all_eq_true.mp h d hd) d' hd'
theorem sortableB_of {xs : List D} (h : sortableB xs = true) : Sortable (xs.map id) := by
  rw [List.map_id]
  unfold sortableB at h
  rw [Bool.or_eq_true] at h
  rcases h with h | h
  · refine .inl fun d hd => ?_
    have := List.all_eq_true.mp h d hd
    split at this
    · exact ⟨_, _, rfl⟩
    · cases this
  · refine .inr fun d hd => ?_
    have := List.all_eq_true.mp h d hd
    split at this
    · cases this
    · cases this
    · rename_i n1 n2
      exact ⟨n1, fun xs e => n2 xs e⟩
theorem cr_sortD (hu : X.A.units + 200 < cLine) : CallR X (.builtin "sorted") (rSortD X.K) := by
  intro pins s σ H vs us Q I r h
  obtain ⟨a, vs', xs, Rr, rfl, hs, he, hd, al, so, hl, hdp, q⟩ := h
  obtain ⟨its, rv, pl, hz⟩ := I.list (.inl (.inl hs))
  rw [Vals.ref1 r]
  have e1 := each_vals rv he
  have e2 : EachIs (fun v b => ∃ as, Reads s.heap v (id b) as) its xs := each_imp e1 fun u x hx ⟨v, ru, hr⟩ => Dp.reads I x v u (hd v x hx hr) ru
  refine sorted_data (enc := id) pl.isList e1 e2 (alikeB_of al) (sortableB_of so) (lim_line hl) (fun b hb => ?_) fun out ol oe => ?_
  · have : b.depth ≤ 150 := hdp b hb
    show X.A.units + 2 + b.depth < cLine
    omega
  · obtain ⟨ep, he'⟩ := PyProof.Rows.sortedAll_at s.heap its out.toArray
    have oe' : EachIs (fun u x => ∃ v, RelV v u ∧ Rr v x) out (sortD xs) := by rw [← sortD_eq]; exact oe
    obtain ⟨ws, w1, w2⟩ := vals_each oe'
    have hlen : ws.length ≤ sizeLine := by rw [w1.length, ol]; exact lim_line hl
    exact ⟨.ref _, upd H (s.heap.objs.size + 1) (.lst ws), I.laid (t' := s.toks) (fun _ _ => PyProof.Rows.sortedAll_old) (Nat.le_succ _) ⟨hlen, out, ep, w1, he'⟩, rfl, q _ ws (I.hok.fresh (Nat.le_succ _)) w2⟩
def depthB (xs : List D) : Bool := xs.all fun x => x.plain && decide (x.depth ≤ 150)
def fSorted (S : List Ob) (x : D) : Option GV := (lisOf S x).bind fun xs => if alikeB xs && sortableB xs && decide (xs.length ≤ lim) && depthB xs then some (.fl (sortD xs)) else none
theorem rpl_each {F m} : ∀ {vs : List V} {xs : List D}, RpL C F m vs xs → EachIs (Rp C F m) vs xs
  | _, _, .nil => .nil
  | _, _, .cons h t => .cons h (rpl_each t)
theorem each_rpl {F m} : ∀ {vs : List V} {xs : List D}, EachIs (Rp C F m) vs xs → RpL C F m vs xs
  | _, _, .nil => .nil
  | _, _, .cons h t => .cons h (each_rpl t)
theorem ok_sorted : Op1Ok C fSorted (fun x H Q => rSortD C.K [x] H Q) := fun F m S τ H v x g Q ok b e k => by
  unfold fSorted at e
  obtain ⟨xs, h1, h2⟩ := Option.bind_eq_some_iff.mp e
  split at h2
  · rename_i hc
    cases h2
    simp only [Bool.and_eq_true, decide_eq_true_eq] at hc
    obtain ⟨⟨⟨c1, c2⟩, c3⟩, c4⟩ := hc
    obtain ⟨a, vs, rfl, hh, rr⟩ := b.lisOf ok h1
    have c4' : ∀ x ∈ xs, x.plain = true ∧ x.depth ≤ 150 := fun x hx => by
      have := List.all_eq_true.mp c4 x hx
      rw [Bool.and_eq_true, decide_eq_true_eq] at this
      exact this
    exact ⟨a, vs, xs, Rp C F m, rfl, hh, rpl_each rr, fun v x hx r => r.dp ok.sub _ _ (c4' x hx).1, c1, c2, c3, fun x hx => (c4' x hx).2, fun p ws hp he => k _ _ (ok.newLst (each_rpl he) hp)⟩
  · cases h2

/-! ### isinstance -/
/-- the built-in class of data -/
def tyOf (S : List Ob) : D → Option String
  | .none => some "NoneType"
  | .bool _ => some "bool"
  | .int _ => some "int"
  | .str _ => some "str"
  | .tuple _ => some "tuple"
  | x => (lisOf S x).map fun _ => "list"
def isiOf (t : String) : List String → Option Bool
  | [] => some false
  | c :: cs => match kitB t c with
    | some true => some true
    | some false => isiOf t cs
    | none => none
def fIsi (cs : List String) (S : List Ob) (x : D) : Option GV := (tyOf S x).bind fun t => (isiOf t cs).map fun b => .d (.bool b)
theorem ty_rel {F m S τ H} {v : V} {x : D} {t : String} (ok : Ok C F m S τ H) (b : Rb C F m H v x) (h : tyOf S x = some t) : TyX C.K H v (.type t) := by
  unfold tyOf at h
  split at h
  · cases h; cases b.non; exact .base .non
  · cases h; cases b.bl; exact .base (.bl _)
  · cases h; cases b.int; exact .base (.int _)
  · cases h; cases b.str; exact .base (.str _)
  · cases h
    obtain ⟨a, vs, rfl, h1, _⟩ := b.tup ok.sub
    rcases h1 with (h1 | ⟨o, h1⟩) | ⟨o, its, n, h1, h2, _⟩
    · exact .base (.tup h1)
    · exact .fTuple h1
    · exact .kTuple h1 h2
  · obtain ⟨xs, h1, h2⟩ := Option.map_eq_some_iff.mp h
    subst h2
    obtain ⟨a, vs, rfl, hh, _⟩ := b.lisOf ok h1
    exact .base (.lst hh)
theorem isi_kit {K : PySem.W.Frag} {t : String} : ∀ {cs : List String} {b : Bool}, isiOf t cs = some b → PySem.W.kitAny K (.type t) (cs.map Value.type) = some b
  | [], b, h => by cases h; exact kitAny_nil
  | c :: cs, b, h => by
    unfold isiOf at h
    split at h
    · rename_i e
      cases h
      exact kitAny_cons (kit_ty e) (fun z => by cases z) (fun _ => rfl)
    · rename_i e
      exact kitAny_cons (kit_ty e) (fun _ => isi_kit h) (fun z => by cases z)
    · cases h
theorem clsv_all : ∀ cs : List String, Paired ClsV (cs.map V.ty) (cs.map Value.type)
  | [] => .nil
  | c :: cs => .cons (.ty c) (clsv_all cs)
end
end Mi

set_option Elab.async false
set_option linter.all false
set_option maxRecDepth 100000
set_option maxHeartbeats 4000000
/-! ML: isinstance, tables of the module, calls of a value. -/
namespace Mi
open PySem PySem.Spec PyProof.Rows L2 PySem.W PySem.SeqAt
section
variable {X : Cx} {C : Cn}

/-! ### isinstance -/
/-- the names of built-in classes -/
def tyNm (x : Str) : Option String := match bootBuiltins x with
  | some (.type n) => some n
  | _ => none
theorem pe_ty {x : Str} {n : String} {pos : Pos} (hg : Gl X x) (hm : X.mg x = none) (hv : bootBuiltins x = some (.type n)) (hn : x ≠ "__name__") (hd : (x == ("__debug__" : Str)) = false) : PE X (.Name x pos) (tC (.ty n)) :=
  pe_bltn hg hm hv (v := .ty n) rfl hn hd
theorem Ok.junk1 {F m S τ H} {p : Addr} {o : HO} (ok : Ok C F m S τ H) (hp : H p = none) : Ok C F m S τ (upd H p o) := ok.junk hp
theorem Rb.junk {F m H} {v : V} {x : D} {p : Addr} {o : HO} (b : Rb C F m H v x) (hp : H p = none) : Rb C F m (upd H p o) v x := by
  rcases b with r | ⟨a, so, vs, xs, h1, h2, h3, h4⟩
  · exact .inl r
  · exact .inr ⟨a, so, vs, xs, h1, h2, by rw [upd_ne (ne_of_none h3 hp)]; exact h3, h4⟩
theorem ok_isi {n : String} : Op1Ok C (fIsi [n]) (fun x H Q => rIsi C.K [x, .ty n] H Q) := fun F m S τ H v x g Q ok b e k => by
  unfold fIsi at e
  obtain ⟨t, h1, h2⟩ := Option.bind_eq_some_iff.mp e
  obtain ⟨c, h3, h4⟩ := Option.map_eq_some_iff.mp h2
  subst h4
  refine ⟨v, .ty n, .type t, .type n, c, rfl, .ty n, ty_rel ok b h1, ?_, k _ H (ok.sim.bl _)⟩
  unfold isiOf at h3
  split at h3
  · rename_i e'; cases h3; exact kit_ty e'
  · rename_i e'; cases h3; exact kit_ty e'
  · cases h3
theorem ok_isiT {ns : List String} : Op1Ok C (fIsi ns) (fun x H Q => ns.length ≤ sizeLine ∧ ∀ p, H p = none → rIsiT C.K [x, .ref p] (upd H p (.tup (ns.map V.ty))) Q) ∨ sizeLine < ns.length := by
  by_cases hl : ns.length ≤ sizeLine
  · refine .inl fun F m S τ H v x g Q ok b e k => ⟨hl, fun p hp => ?_⟩
    unfold fIsi at e
    obtain ⟨t, h1, h2⟩ := Option.bind_eq_some_iff.mp e
    obtain ⟨c, h3, h4⟩ := Option.map_eq_some_iff.mp h2
    subst h4
    exact ⟨v, p, ns.map V.ty, .type t, ns.map Value.type, c, rfl, upd_same, clsv_all ns, ty_rel (ok.junk hp) (b.junk hp) h1, isi_kit h3, k _ _ ((ok.junk hp).sim.bl _)⟩
  · exact .inr (by omega)
theorem snd_isi {a : Opd} {e : Expr} {y : Str} {n : String} {p py pos : Pos} (hK : C.K = X.K) (hg : Gl X "isinstance") (hm : X.mg "isinstance" = none) (hst : isStar e = false) (hgy : Gl X y) (hmy : X.mg y = none) (hvy : bootBuiltins y = some (.type n)) (hny : y ≠ "__name__") (hdy : (y == ("__debug__" : Str)) = false)
    (ha : SndO X C a e) : Snd X C (cOp1 (fIsi [n]) a) (.Call (.Name "isinstance" p) [e, .Name y py] [] pos) := by
  refine snd_op1 (r := fun x H Q => rIsi C.K [x, .ty n] H Q) ok_isi ha ?_
  have z := pe_callB (X := X) (pos := pos) (p := p) (x := ("isinstance" : Str)) call_isi hg hm (by decide +kernel) (pa_cons (pe_u (e := e)) (pa_cons (pe_ty hgy hmy hvy hny hdy (pos := py)) pa_nil rfl) (starEach_no hst)) (by decide) (by decide) (starEach_no hst) rfl
  rw [hK]
  exact z
def tyPos : List (Str × String × Pos) → List Expr
  | [] => []
  | (y, _, p) :: r => .Name y p :: tyPos r
theorem pa_tys : ∀ {l : List (Str × String × Pos)}, (∀ q ∈ l, Gl X q.1 ∧ X.mg q.1 = none ∧ bootBuiltins q.1 = some (.type q.2.1) ∧ q.1 ≠ "__name__" ∧ (q.1 == ("__debug__" : Str)) = false) → PA X (tyPos l) (fun σ H Q => Q (l.map fun q => V.ty q.2.1) H)
  | [], _ => pa_nil
  | (y, n, p) :: r, h => by
    obtain ⟨h1, h2, h3, h4, h5⟩ := h _ (List.mem_cons_self ..)
    exact pa_cons (pe_ty h1 h2 h3 h4 h5) (pa_tys fun q hq => h q (List.mem_cons_of_mem _ hq)) rfl
theorem snd_isiT {a : Opd} {e : Expr} {l : List (Str × String × Pos)} {k : Nat} {p py pos : Pos} (hK : C.K = X.K) (hg : Gl X "isinstance") (hm : X.mg "isinstance" = none) (hst : isStar e = false) (hl : l.length ≤ 1000)
    (hy : ∀ q ∈ l, Gl X q.1 ∧ X.mg q.1 = none ∧ bootBuiltins q.1 = some (.type q.2.1) ∧ q.1 ≠ "__name__" ∧ (q.1 == ("__debug__" : Str)) = false)
    (ha : SndO X C a e) : Snd X C (cOp1 (fIsi (l.map fun q => q.2.1)) a) (.Call (.Name "isinstance" p) [e, .Tuple (tyPos l) k py] [] pos) := by
  rcases ok_isiT (C := C) (ns := l.map fun q => q.2.1) with ok | ok
  · refine snd_op1 ok ha ?_
    have z := pe_callB (X := X) (pos := pos) (p := p) (x := ("isinstance" : Str)) call_isiT hg hm (by decide +kernel) (pa_cons (pe_u (e := e)) (pa_cons (pe_tup (x1 := k) (pos := py) (pa_tys hy)) pa_nil rfl) (starEach_no hst)) (by decide) (by decide) (starEach_no hst) rfl
    rw [hK]
    rw [List.map_map]
    refine ⟨fun pins s σ H Q I h => z.run pins s σ H Q I ?_⟩
    refine ue_of (pe_u (e := e)) ?_ |> fun (q : UE X e σ H fun x H1 => tCons (tTup fun σ H Q => Q (l.map fun q => V.ty q.2.1) H) tNil σ H1 fun xs H2 => rIsiT X.K (x :: xs) H2 Q) => q
    intro pins' s' I'
    refine wpAny_mono (h pins' s' I') (fun u s'' ⟨v, H', I'', r, q⟩ => ⟨v, H', I'', r, ?_⟩) fun _ _ z => z
    exact ⟨by rw [List.length_map]; exact Nat.le_trans hl (by rw [sizeLine_eq]; decide), fun p hp => q.2 p hp⟩
  · rw [List.length_map, sizeLine_eq] at ok; omega

/-! ### a table of the module: texts to data -/
def cTab (tab : List (Str × D)) (c : M GV) : M GV := fun t => (vl c t).bind fun x t1 => match x with
  | .str z => (match tab.lookup z with
    | some y => .ok (.d y) t1
    | none => .bad)
  | _ => .bad
theorem plainIx_no {e : Expr} (h : isSlice e = false) : PlainIx e := by
  intro o i
  cases e <;> first | rfl | cases h
theorem snd_tab {tab : List (Str × D)} {c : M GV} {x : Str} {a : Addr} {e : Expr} {p pos : Pos} (hK : C.K = X.K) (hg : Gl X x) (hm : X.mg x = some (.ref a)) (hd : (x == ("__debug__" : Str)) = false) (hsl : isSlice e = false)
    (ht : ∀ z y, tab.lookup z = some y → ∃ v, KDct X.K X.w a z v ∧ Rp C (fun _ => none) [] v y) (hc : Snd X C c e) : Snd X C (cTab tab c) (.Subscript (.Name x p) e pos) := fun σ ρ S τρ τ H Q sl hs q => by
  refine ue_of (pe_ix ix_kdict (pe_glob (v := .ref a) hg hm rfl hd) pe_u (plainIx_no hsl)) ?_
  show UE X e σ H fun y H2 => rIxD X.K X.w (.ref a) y H2 Q
  refine hc.vl sl hs (R.post_imp (R.post_bind.mp q) fun k t1 kk u H1 τρ1 sl1 hs1 => ?_)
  split at kk
  · rename_i z
    split at kk
    · rename_i y ey
      obtain ⟨v, h1, h2⟩ := ht z y ey
      cases hs1.str_inv
      exact ⟨a, z, v, rfl, rfl, h1, kk v H1 τρ1 sl1 (hs1.tail.const h2)⟩
    · exact kk.elim
  · exact kk.elim

/-! ### a def that is a value, called -/
def fnOf? : D → Option Nat
  | .dict [(.none, .int n)] => if 0 ≤ n then some n.toNat else none
  | _ => none
theorem fnOf_eq {x : D} {n : Nat} (h : fnOf? x = some n) : x = dFn n := by
  unfold fnOf? at h
  split at h
  · rename_i k
    split at h
    · rename_i h0
      cases h
      have z : (k.toNat : Int) = k := Int.toNat_of_nonneg h0
      rw [show dFn k.toNat = .dict [(.none, .int k)] by rw [← z]; rfl]
    · cases h
  · cases h
def cCallV (call : Calls) (c : M GV) (as : M (List D)) : M GV := fun t => (vl c t).bind fun f t1 => match fnOf? f with
  | some i => cCall call i as t1
  | none => .bad
def AllDefs (X : Cx) (C : Cn) (call : Calls) (k : Nat) : Prop := ∀ i a, C.fa i = some a → ∃ n fd ps, Def X.prog X.w X.K X.mg X.base C call k i n a fd ps
def isAttr : Expr → Bool
  | .Attribute _ _ _ => true
  | _ => false
theorem eval_call {f : Expr} {args : List Expr} {pos : Pos} {env : Env} (h : isAttr f = false) : eval (.Call f args [] pos) env = (do
    callWith pos (← eval f env) [] (backTo pos (starEach args env)) (backToKw pos (keywordEach [] env))) := by
  cases f <;> first | rfl | cases h
theorem snd_callV {call : Calls} {k : Nat} {c : M GV} {as : M (List D)} {f e : Expr} {es : List Expr} {pos : Pos} (A : AllDefs X C call k) (hr : Room k X.A) (hat : isAttr f = false) (hst : ((e :: es).all fun e => !isStar e) = true) (hc : Snd X C c f) (ha : SndA X C as (e :: es)) :
    Snd X C (cCallV call c as) (.Call f (e :: es) [] pos) := fun σ ρ S τρ τ H Q sl hs q => by
  rw [List.all_cons, Bool.and_eq_true] at hst
  intro pins s I
  rw [eval_call hat]
  have z : UE X f σ H fun v H1 => ∃ a sp fd ps, v = .ref a ∧ FnOk X.prog X.w X.K X.mg X.base CX0 k a fd ps sp ∧ PySem.W.keepIn X.K (.ref a) = true ∧ Binds X.K fd ps [] ∧ UA X (e :: es) σ H1 fun vs H2 => sp vs H2 Q E0 := by
    refine hc.vl sl hs (R.post_imp (R.post_bind.mp q) fun x t1 kk v H1 τρ1 sl1 hs1 => ?_)
    split at kk
    · rename_i i ei
      cases fnOf_eq ei
      obtain ⟨a, rfl, hfa⟩ := hs1.fn_inv
      obtain ⟨n, fd, ps, d⟩ := A i a hfa
      refine ⟨a, _, fd, ps, rfl, d.ok, d.kp, d.b, ?_⟩
      refine ha σ t1.ρ t1.S τρ1 τ H1 _ sl1 hs1.tail (R.post_imp (R.post_bind.mp kk) fun xs t k2 vs H2 τρ2 sl2 hl hs2 => ?_)
      have k' := call_post (t := t) k2
      have hn := d.len k'
      exact ⟨t.S, τρ2 ++ τ, xs, hl.trans hn, hn, hs2, Rc.post_imp k' fun g S' k v H' h => k v H' τρ2 sl2 h⟩
    · exact kk.elim
  refine wpAny_bind (wpAny_mono (z pins s I) (fun u s1 ⟨v, H1, I1, r, a, sp, fd, ps, ev, F, kp, b, q1⟩ => ?_) fun _ _ z => z)
  subst ev
  obtain rfl : u = Value.ref a := r
  refine PySem.W.callWith_K (h₀ := X.base) I.ok.mod.kin kp (thn (pa_u.run pos pins s1 σ H1 _ I1 q1) fun us s2 ⟨vs, H2, I2, r2, q2⟩ => ⟨I2.kIn, ?_⟩) (starEach_no (by simpa using hst.1)) (backTo_no hst.2)
  exact run_fn F hr b .nil pass0 I2 r2 (by rw [List.append_nil]; exact q2)
end
end Mi

set_option Elab.async false
set_option linter.all false
set_option maxRecDepth 100000
set_option maxHeartbeats 4000000
/-! ML2: list comprehensions of two fors. -/
namespace Mi
open PySem PySem.Spec PyProof.Rows L2 PySem.W PySem.SeqAt
def notSetE : Expr → Bool
  | .Set _ _ _ => false
  | _ => true
def lcO (b : GV → M Unit) (cd : M Bool) (src1 : M (List D)) (b1 : GV → M Unit) (cd1 : M Bool) (el : M GV) (vs1 : List Nat) (ρh : List (Option GV)) : List D → List D → List Ob → Rc
  | [], acc, S => .ok (.fl acc) S
  | x :: xs, acc, S => match b (.d x) ⟨ρh, S⟩ with
    | .ok _ t1 => (match cd t1 with
      | .ok k t2 => if k = true then (match src1 t2 with
        | .ok ys t3 => (match lcL b1 cd1 el (hideR t3.ρ vs1) ys acc t3.S with
          | .ok (.ob .l acc') S' => lcO b cd src1 b1 cd1 el vs1 ρh xs acc' S'
          | .ok _ _ => .bad
          | .exc x xs S => .exc x xs S
          | .bad => .bad)
        | .exc x xs t => .exc x xs t.S
        | .bad => .bad)
        else lcO b cd src1 b1 cd1 el vs1 ρh xs acc t2.S
      | .exc x xs t => .exc x xs t.S
      | .bad => .bad)
    | .exc x xs t => .exc x xs t.S
    | .bad => .bad
def cLc2 (src : M (List D)) (b : GV → M Unit) (cd : M Bool) (src1 : M (List D)) (b1 : GV → M Unit) (cd1 : M Bool) (el : M GV) (vs vs1 : List Nat) : M GV := fun t => (src t).bind fun xs t1 => match lcO b cd src1 b1 cd1 el vs1 (hideR t1.ρ vs) xs [] t1.S with
  | .ok g S => .ok g ⟨t1.ρ, S⟩
  | .exc x xs S => .exc x xs ⟨t1.ρ, S⟩
  | .bad => .bad
section
variable {X : Cx} {C : Cn}
/-- a block's source, whichever the block's heap -/
def UIB (X : Cx) (scope : Scope) (tg iter : Expr) : TI := fun σ H R => ∀ (s : Shared) (H' : Hp) (C' : Addr) (cl : List (Str × Addr)) (fp : List Addr), UI (blkX X scope s H' C' cl fp) tg iter σ H R
theorem piB {scope : Scope} {tg iter : Expr} (s : Shared) (H : Hp) (C' : Addr) (cl : List (Str × Addr)) (fp : List Addr) : PI (blkX X scope s H C' cl fp) tg iter (UIB X scope tg iter) := ⟨fun pins s' σ H' R I h => pi_u.run pins s' σ H' R I (h s H C' cl fp)⟩
/-- the turns of the loop that fills the list at Dl -/
theorem lc_loop {J : It} {xs : List D} {τh τw rest : List (V × GV)} {b : GV → M Unit} {cd : M Bool} {el : M GV} {g : TG} {elt : Expr} {ifs : List Expr} {scope : Scope} {vs : List Nat} (iok : ItOk C J xs τh) (hb : BndOk C g b vs)
    (ht : ∀ (s : Shared) (H : Hp) (C' : Addr) (cl : List (Str × Addr)) (fp : List Addr), SndTs (blkX X scope s H C' cl fp) C cd ifs)
    (he : ∀ (s : Shared) (H : Hp) (C' : Addr) (cl : List (Str × Addr)) (fp : List Addr), Snd (blkX X scope s H C' cl fp) C el elt)
    {σ : L2.St} {ρh : List (Option GV)} {S : List Ob} {H : Hp} {Dl : Addr} {acc0 : List D} {Fin : Hp → Prop} (slw : Slots (L2.wipe σ vs) ρh τw) (ow : own τw = []) (mh : ∀ q ∈ τh, q ∈ rest)
    (hs : Sim C S ((.ref Dl, .fl acc0) :: (τw ++ rest)) H)
    (q : (lcL b cd el ρh xs acc0 S).post fun g S' => ∀ H', (∃ acc, g = .fl acc ∧ Sim C S' ((.ref Dl, .fl acc) :: (τw ++ rest)) H') → Fin H') :
    ∃ W : Nat → Nat → Hp → Prop, (∃ m, W 0 m H) ∧ ∀ i m H, W i m H →
      (J.stop i H ∧ Fin H) ∨ (J.go i H ∧ ∃ Nx : Hp → Prop, (∀ H', Nx H' → ∃ m', m' < m ∧ W (i + 1) m' H') ∧ ∀ x H', J.yld i H x H' → g x (L2.wipe σ vs) H' fun σ2 H2 => L2.wipe σ2 vs = L2.wipe σ vs ∧ UTsB X scope ifs σ2 H2 fun b H3 =>
        if b = true then UEB X scope elt σ2 H3 fun y H4 => ∃ acc, H4 Dl = some (.lst acc) ∧ acc.length < sizeLine ∧ Nx (upd H4 Dl (.lst (acc ++ [y]))) else Nx H3) := by
  refine ⟨fun i m H' => m = xs.length - i ∧ i ≤ xs.length ∧ ∃ (acc : List D) (S' : List Ob), Sim C S' ((.ref Dl, .fl acc) :: (τw ++ rest)) H' ∧
    (lcL b cd el ρh (xs.drop i) acc S').post fun g S' => ∀ H', (∃ acc, g = .fl acc ∧ Sim C S' ((.ref Dl, .fl acc) :: (τw ++ rest)) H') → Fin H', ⟨xs.length, rfl, Nat.zero_le _, acc0, S, hs, q⟩, ?_⟩
  rintro i m H' ⟨rfl, hi', acc, S', hs', q'⟩
  have hm : ∀ q ∈ τh, q ∈ (V.ref Dl, GV.fl acc) :: (τw ++ rest) := fun q hq => List.mem_cons_of_mem _ (List.mem_append_right _ (mh q hq))
  by_cases hl : i < xs.length
  · have hd : xs.drop i = xs[i] :: xs.drop (i + 1) := List.drop_eq_getElem_cons hl
    rw [hd] at q'
    refine .inr ⟨iok.go i S' _ H' hl hs' hm, fun H'' => ∃ (acc : List D) (S' : List Ob), Sim C S' ((.ref Dl, .fl acc) :: (τw ++ rest)) H'' ∧
      (lcL b cd el ρh (xs.drop (i + 1)) acc S').post fun g S' => ∀ H', (∃ acc, g = .fl acc ∧ Sim C S' ((.ref Dl, .fl acc) :: (τw ++ rest)) H') → Fin H', fun H'' ⟨acc', S'', z1, z2⟩ => ⟨xs.length - (i + 1), by omega, rfl, hl, acc', S'', z1, z2⟩, fun v H'' hy => ?_⟩
    have hs2 := iok.yld i xs[i] S' _ H' v H'' (List.getElem?_eq_getElem hl) hs' hm hy
    let keep := (V.ref Dl, GV.fl acc) :: (τw ++ rest)
    have hs3 : Sim C S' ((v, GV.d xs[i]) :: (τw ++ keep)) H'' := (hs2.re (τ' := (v, GV.d xs[i]) :: (τw ++ keep)) (fun x hx => by
      rcases List.mem_cons.mp hx with h | h
      · exact List.mem_cons.mpr (.inl h)
      · rcases List.mem_append.mp h with h | h
        · exact List.mem_cons_of_mem _ (List.mem_cons_of_mem _ (List.mem_append_left _ h))
        · exact List.mem_cons_of_mem _ h) fun a => by rw [own_d, own_d, own_app, ow]; exact Nat.le_refl _)
    unfold lcL at q'
    have p0 : (b (.d xs[i]) ⟨ρh, S'⟩).post fun _ t1 => Rc.post (match cd t1 with
      | .ok k t2 => if k = true then (match vl el t2 with
        | .ok y t3 => if acc.length < lim then lcL b cd el ρh (xs.drop (i + 1)) (acc ++ [y]) t3.S else .bad
        | .exc x xs t => .exc x xs t.S
        | .bad => .bad)
        else lcL b cd el ρh (xs.drop (i + 1)) acc t2.S
      | .exc x xs t => .exc x xs t.S
      | .bad => .bad) fun g S' => ∀ H', (∃ acc, g = .fl acc ∧ Sim C S' ((.ref Dl, .fl acc) :: (τw ++ rest)) H') → Fin H' := by
      cases e : b (.d xs[i]) ⟨ρh, S'⟩ with
      | ok a t1 => rw [e] at q'; exact q'
      | exc => rw [e] at q'; exact q'.elim
      | bad => rw [e] at q'; exact q'.elim
    refine hb (L2.wipe σ vs) _ S' τw keep H'' v (.d xs[i]) _ slw hs3 (R.post_imp p0 fun _ t1 k1 σ2 H2 τρ2 w2 sl2 hs4 => ?_)
    refine ⟨w2.trans (by
      apply List.ext_getElem?
      intro j
      rw [wipe_get, wipe_get]
      by_cases hj : j ∈ vs
      · rw [if_pos hj, if_pos hj]; cases σ[j]? <;> rfl
      · rw [if_neg hj]), ?_⟩
    intro s0 H0 C0 cl0 fp0
    have p1 : (cd t1).post fun k t2 => Rc.post (if k = true then (match vl el t2 with
        | .ok y t3 => if acc.length < lim then lcL b cd el ρh (xs.drop (i + 1)) (acc ++ [y]) t3.S else .bad
        | .exc x xs t => .exc x xs t.S
        | .bad => .bad)
        else lcL b cd el ρh (xs.drop (i + 1)) acc t2.S) fun g S' => ∀ H', (∃ acc, g = .fl acc ∧ Sim C S' ((.ref Dl, .fl acc) :: (τw ++ rest)) H') → Fin H' := by
      cases e : cd t1 with
      | ok a t2 => rw [e] at k1; exact k1
      | exc => rw [e] at k1; exact k1.elim
      | bad => rw [e] at k1; exact k1.elim
    refine ht s0 H0 C0 cl0 fp0 σ2 t1.ρ t1.S τρ2 keep H2 _ sl2 hs4 (R.post_imp p1 fun kb t2 k2 H3 τρ3 sl3 hs5 => ?_)
    cases kb with
    | false => exact ⟨acc, t2.S, hs5.right, k2⟩
    | true =>
      show UEB X scope elt σ2 H3 _
      intro s1 H4 C1 cl1 fp1
      have p2 : (vl el t2).post fun y t3 => Rc.post (if acc.length < lim then lcL b cd el ρh (xs.drop (i + 1)) (acc ++ [y]) t3.S else .bad) fun g S' => ∀ H', (∃ acc, g = .fl acc ∧ Sim C S' ((.ref Dl, .fl acc) :: (τw ++ rest)) H') → Fin H' := by
        have k2' : Rc.post (match vl el t2 with
          | .ok y t3 => if acc.length < lim then lcL b cd el ρh (xs.drop (i + 1)) (acc ++ [y]) t3.S else .bad
          | .exc x xs t => .exc x xs t.S
          | .bad => .bad) fun g S' => ∀ H', (∃ acc, g = .fl acc ∧ Sim C S' ((.ref Dl, .fl acc) :: (τw ++ rest)) H') → Fin H' := k2
        cases e : vl el t2 with
        | ok a t3 => rw [e] at k2'; exact k2'
        | exc => rw [e] at k2'; exact k2'.elim
        | bad => rw [e] at k2'; exact k2'.elim
      refine (he s1 H4 C1 cl1 fp1).vl sl3 hs5 (R.post_imp p2 fun y t3 k3 u H5 τρ4 sl4 hs6 => ?_)
      split at k3
      · rename_i hlim
        have hs7 : Sim C t3.S ((V.ref Dl, GV.fl acc) :: ((u, GV.d y) :: (τw ++ rest))) H5 := hs6.re (fun x hx => by
          simp only [List.mem_append, List.mem_cons, keep] at hx ⊢
          rcases hx with h | h | h
          · exact .inr (.inr (.inl h))
          · exact .inl h
          · exact .inr (.inr (.inr h))) fun a => by
          show List.count a (own ([(V.ref Dl, GV.fl acc)] ++ ((u, GV.d y) :: (τw ++ rest)))) ≤ List.count a (own ((u, GV.d y) :: (τρ4 ++ ([(V.ref Dl, GV.fl acc)] ++ (τw ++ rest)))))
          simp only [own_app, own_d, List.count_append]; omega
        obtain ⟨a, us, e1, h1, h2, h3⟩ := hs7.fl_inv
        cases e1
        refine ⟨us, h1, by rw [h2]; exact lim_lt hlim, acc ++ [y], t3.S, ?_, k3⟩
        obtain ⟨F, m, ok3⟩ := h3
        have r1 : RpL C F m us acc := ok3.rows h2 fun q hq => List.mem_append_left _ hq
        have r2 : Rp C F m u y := ok3.get (List.mem_append_right _ (List.mem_cons_of_mem _ (List.mem_cons_self ..)))
        have r3 : RpL C F m (us ++ [u]) (acc ++ [y]) := r1.app (.cons r2 .nil)
        have ok4 : Ok C F m t3.S ((V.ref Dl, GV.fl acc) :: (τw ++ rest)) H5 := ok3.re (fun x hx => by
          simp only [List.mem_append, List.mem_cons] at hx ⊢
          rcases hx with h | h
          · exact .inr (.inl h)
          · exact .inr (.inr (.inr h))) fun a => by
          rw [own_app, own_zip, List.nil_append]
          show List.count a (own ([(V.ref Dl, GV.fl acc)] ++ (τw ++ rest))) ≤ List.count a (own ([(V.ref Dl, GV.fl acc)] ++ ((u, GV.d y) :: (τw ++ rest))))
          simp only [own_app, own_d, List.count_append]; omega
        refine Sim.setOwn (xs := acc) ?_ (by simp [h2])
        exact (ok4.adds r3).sim.re (fun x hx => by
          simp only [List.mem_append, List.mem_cons] at hx ⊢
          rcases hx with h | h | h
          · exact .inr (.inl h)
          · exact .inl h
          · exact .inr (.inr h)) fun a => by
          show List.count a (own ([(V.ref Dl, GV.fl acc)] ++ ((us ++ [u]).zip (List.map GV.d (acc ++ [y])) ++ (τw ++ rest)))) ≤ List.count a (own ((us ++ [u]).zip (List.map GV.d (acc ++ [y])) ++ ([(V.ref Dl, GV.fl acc)] ++ (τw ++ rest))))
          simp only [own_app, own_zip, List.count_append]; omega
      · exact k3.elim
  · have he' : i = xs.length := by omega
    subst he'
    rw [List.drop_length] at q'
    exact .inl ⟨iok.stop S' _ H' hs' hm, q' H' ⟨acc, rfl, hs'⟩⟩
theorem lcL_fl {b : GV → M Unit} {cd : M Bool} {el : M GV} {ρh : List (Option GV)} : ∀ {xs acc : List D} {S : List Ob} {g : GV} {S' : List Ob}, lcL b cd el ρh xs acc S = .ok g S' → ∃ acc', g = .fl acc'
  | [], acc, S, g, S', h => by unfold lcL at h; cases h; exact ⟨_, rfl⟩
  | x :: xs, acc, S, g, S', h => by
    unfold lcL at h
    split at h
    · split at h
      · split at h
        · split at h
          · split at h
            · exact lcL_fl h
            · cases h
          · cases h
          · cases h
        · exact lcL_fl h
      · cases h
      · cases h
    · cases h
    · cases h
theorem go_lc2 {src src1 : M (List D)} {b b1 : GV → M Unit} {cd cd1 : M Bool} {el : M GV} {g g1 : TG} {tg tg1 elt iter iter1 : Expr} {ifs ifs1 : List Expr} {scope : Scope} {vs vs1 : List Nat} (hi : SndI X C src tg iter) (hb : BndOk C g b vs)
    (ht : ∀ (s : Shared) (H : Hp) (C' : Addr) (cl : List (Str × Addr)) (fp : List Addr), SndTs (blkX X scope s H C' cl fp) C cd ifs)
    (hi1 : ∀ (s : Shared) (H : Hp) (C' : Addr) (cl : List (Str × Addr)) (fp : List Addr), SndI (blkX X scope s H C' cl fp) C src1 tg1 iter1) (hb1 : BndOk C g1 b1 vs1)
    (ht1 : ∀ (s : Shared) (H : Hp) (C' : Addr) (cl : List (Str × Addr)) (fp : List Addr), SndTs (blkX X scope s H C' cl fp) C cd1 ifs1)
    (he : ∀ (s : Shared) (H : Hp) (C' : Addr) (cl : List (Str × Addr)) (fp : List Addr), Snd (blkX X scope s H C' cl fp) C el elt)
    {σ : L2.St} {ρ : List (Option GV)} {S : List Ob} {τρ τ : List (V × GV)} {H : Hp} {Q : VK} (sl : Slots σ ρ τρ) (hs : Sim C S (τρ ++ τ) H)
    (q : (cLc2 src b cd src1 b1 cd1 el vs vs1 ⟨ρ, S⟩).post fun g t => ∀ v H' τρ', Slots σ t.ρ τρ' → Sim C t.S ((v, g) :: (τρ' ++ τ)) H' → Q v H') :
    tLc2 (UI X tg iter) g (UTsB X scope ifs) (UIB X scope tg1 iter1) g1 (UTsB X scope ifs1) (UEB X scope elt) vs vs1 σ H Q := by
  refine hi σ ρ S τρ τ H _ sl hs (R.post_imp (R.post_bind.mp q) fun xs t k J H1 τρ1 τh sl1 oh hs1 iok => ?_)
  intro Dl hD
  obtain ⟨τw, slw, mw, ow⟩ := sl1.hideR vs
  generalize hρ : hideR t.ρ vs = ρh at slw k
  have k' : (lcO b cd src1 b1 cd1 el vs1 ρh xs [] t.S).post fun g S => ∀ v H' τρ', Slots σ t.ρ τρ' → Sim C S ((v, g) :: (τρ' ++ τ)) H' → Q v H' := by
    cases e : lcO b cd src1 b1 cd1 el vs1 ρh xs [] t.S with
    | ok g S' => rw [e] at k; exact k
    | exc => rw [e] at k; exact k.elim
    | bad => rw [e] at k; exact k.elim
  let rest := τh ++ (τρ1 ++ τ)
  refine ⟨fun i m H' => m = xs.length - i ∧ i ≤ xs.length ∧ ∃ (acc : List D) (S' : List Ob), Sim C S' ((.ref Dl, .fl acc) :: (τw ++ rest)) H' ∧
    (lcO b cd src1 b1 cd1 el vs1 ρh (xs.drop i) acc S').post fun g S => ∀ v H' τρ', Slots σ t.ρ τρ' → Sim C S ((v, g) :: (τρ' ++ τ)) H' → Q v H', ⟨xs.length, rfl, Nat.zero_le _, [], t.S, ?_, k'⟩, ?_⟩
  · have z : Sim C t.S (τw ++ rest) H1 := Sim.hold (hs1.perm (by
      show (τh ++ (τρ1 ++ τ)).Perm (τρ1 ++ (τh ++ τ))
      rw [← List.append_assoc, ← List.append_assoc]
      exact List.perm_append_comm.append_right τ)) (fun q hq => List.mem_append_right _ (List.mem_append_left _ (mw q hq))) ow
    exact Sim.newLst (vs := []) (xs := []) z rfl hD
  · rintro i m H' ⟨rfl, hi', acc, S', hs', q'⟩
    have hm : ∀ q ∈ τh, q ∈ (V.ref Dl, GV.fl acc) :: (τw ++ rest) := fun q hq => List.mem_cons_of_mem _ (List.mem_append_right _ (List.mem_append_left _ hq))
    by_cases hl : i < xs.length
    · have hd : xs.drop i = xs[i] :: xs.drop (i + 1) := List.drop_eq_getElem_cons hl
      rw [hd] at q'
      refine .inr ⟨iok.go i S' _ H' hl hs' hm, fun H'' => ∃ (acc : List D) (S' : List Ob), Sim C S' ((.ref Dl, .fl acc) :: (τw ++ rest)) H'' ∧
        (lcO b cd src1 b1 cd1 el vs1 ρh (xs.drop (i + 1)) acc S').post fun g S => ∀ v H' τρ', Slots σ t.ρ τρ' → Sim C S ((v, g) :: (τρ' ++ τ)) H' → Q v H', fun H'' ⟨acc', S'', z1, z2⟩ => ⟨xs.length - (i + 1), by omega, rfl, hl, acc', S'', z1, z2⟩, fun v H'' hy => ?_⟩
      have hs2 := iok.yld i xs[i] S' _ H' v H'' (List.getElem?_eq_getElem hl) hs' hm hy
      let keep := (V.ref Dl, GV.fl acc) :: (τw ++ rest)
      have hs3 : Sim C S' ((v, GV.d xs[i]) :: (τw ++ keep)) H'' := (hs2.re (τ' := (v, GV.d xs[i]) :: (τw ++ keep)) (fun x hx => by
        rcases List.mem_cons.mp hx with h | h
        · exact List.mem_cons.mpr (.inl h)
        · rcases List.mem_append.mp h with h | h
          · exact List.mem_cons_of_mem _ (List.mem_cons_of_mem _ (List.mem_append_left _ h))
          · exact List.mem_cons_of_mem _ h) fun a => by rw [own_d, own_d, own_app, ow]; exact Nat.le_refl _)
      unfold lcO at q'
      generalize hΦ : (fun (g : GV) (S : List Ob) => ∀ v H' τρ', Slots σ t.ρ τρ' → Sim C S ((v, g) :: (τρ' ++ τ)) H' → Q v H') = Φ at q'
      have p0 : (b (.d xs[i]) ⟨ρh, S'⟩).post fun _ t1 => (cd t1).post fun k t2 => if k = true then (src1 t2).post fun ys t3 => Rc.post (match lcL b1 cd1 el (hideR t3.ρ vs1) ys acc t3.S with
          | .ok (.ob .l acc') S' => lcO b cd src1 b1 cd1 el vs1 ρh (xs.drop (i + 1)) acc' S'
          | .ok _ _ => .bad
          | .exc x xs S => .exc x xs S
          | .bad => .bad) Φ else (lcO b cd src1 b1 cd1 el vs1 ρh (xs.drop (i + 1)) acc t2.S).post Φ := by
        cases e : b (.d xs[i]) ⟨ρh, S'⟩ with
        | ok a t1 =>
          rw [e] at q'
          show R.post (cd t1) _
          cases e1 : cd t1 with
          | ok kb t2 =>
            have q2 : Rc.post (match cd t1 with
              | .ok k t2 => if k = true then (match src1 t2 with
                | .ok ys t3 => (match lcL b1 cd1 el (hideR t3.ρ vs1) ys acc t3.S with
                  | .ok (.ob .l acc') S' => lcO b cd src1 b1 cd1 el vs1 ρh (xs.drop (i + 1)) acc' S'
                  | .ok _ _ => .bad
                  | .exc x xs S => .exc x xs S
                  | .bad => .bad)
                | .exc x xs t => .exc x xs t.S
                | .bad => .bad)
                else lcO b cd src1 b1 cd1 el vs1 ρh (xs.drop (i + 1)) acc t2.S
              | .exc x xs t => .exc x xs t.S
              | .bad => .bad) Φ := q'
            rw [e1] at q2
            cases kb with
            | false => exact q2
            | true =>
              show R.post (src1 t2) _
              have q3 : Rc.post (match src1 t2 with
                | .ok ys t3 => (match lcL b1 cd1 el (hideR t3.ρ vs1) ys acc t3.S with
                  | .ok (.ob .l acc') S' => lcO b cd src1 b1 cd1 el vs1 ρh (xs.drop (i + 1)) acc' S'
                  | .ok _ _ => .bad
                  | .exc x xs S => .exc x xs S
                  | .bad => .bad)
                | .exc x xs t => .exc x xs t.S
                | .bad => .bad) Φ := q2
              cases e2 : src1 t2 with
              | ok ys t3 => rw [e2] at q3; exact q3
              | exc => rw [e2] at q3; exact q3.elim
              | bad => rw [e2] at q3; exact q3.elim
          | exc =>
            have q2 : Rc.post (match cd t1 with
              | .ok k t2 => _
              | .exc x xs t => .exc x xs t.S
              | .bad => .bad) Φ := q'
            rw [e1] at q2; exact q2.elim
          | bad =>
            have q2 : Rc.post (match cd t1 with
              | .ok k t2 => _
              | .exc x xs t => .exc x xs t.S
              | .bad => .bad) Φ := q'
            rw [e1] at q2; exact q2.elim
        | exc => rw [e] at q'; exact q'.elim
        | bad => rw [e] at q'; exact q'.elim
      subst hΦ
      refine hb (L2.wipe σ vs) _ S' τw keep H'' v (.d xs[i]) _ slw hs3 (R.post_imp p0 fun _ t1 k1 σ2 H2 τρ2 w2 sl2 hs4 => ?_)
      refine ⟨w2.trans (by
        apply List.ext_getElem?
        intro j
        rw [wipe_get, wipe_get]
        by_cases hj : j ∈ vs
        · rw [if_pos hj, if_pos hj]; cases σ[j]? <;> rfl
        · rw [if_neg hj]), ?_⟩
      intro s0 H0 C0 cl0 fp0
      refine ht s0 H0 C0 cl0 fp0 σ2 t1.ρ t1.S τρ2 keep H2 _ sl2 hs4 (R.post_imp k1 fun kb t2 k2 H3 τρ3 sl3 hs5 => ?_)
      cases kb with
      | false => exact ⟨acc, t2.S, hs5.right, k2⟩
      | true =>
        show UIB X scope tg1 iter1 σ2 H3 _
        intro s1 H4' C1 cl1 fp1
        refine hi1 s1 H4' C1 cl1 fp1 σ2 t2.ρ t2.S τρ3 keep H3 _ sl3 hs5 (R.post_imp k2 fun ys t3 k3 J1 H4 τρ4 τh1 sl4 oh1 hs6 iok1 => ?_)
        obtain ⟨τw1, slw1, mw1, ow1⟩ := sl4.hideR vs1
        have hs7 : Sim C t3.S ((V.ref Dl, GV.fl acc) :: (τw1 ++ (τh1 ++ (τw ++ rest)))) H4 := hs6.re (fun x hx => by
          simp only [List.mem_append, List.mem_cons, keep] at hx ⊢
          rcases hx with h | h | h | h
          · exact .inr (.inr (.inl h))
          · exact .inl (mw1 x h)
          · exact .inr (.inl h)
          · exact .inr (.inr (.inr h))) fun a => by
          show List.count a (own ([(V.ref Dl, GV.fl acc)] ++ (τw1 ++ (τh1 ++ (τw ++ rest))))) ≤ List.count a (own (τρ4 ++ (τh1 ++ ([(V.ref Dl, GV.fl acc)] ++ (τw ++ rest)))))
          simp only [own_app, ow1, oh1, List.count_append, List.count_nil]; omega
        refine lc_loop iok1 hb1 ht1 he slw1 ow1 (fun q hq => List.mem_append_left _ hq) hs7 ?_
        cases e : lcL b1 cd1 el (hideR t3.ρ vs1) ys acc t3.S with
        | ok g2 S2 =>
          obtain ⟨acc', rfl⟩ := lcL_fl e
          rw [e] at k3
          intro H5 ⟨acc2, e2, z⟩
          cases e2
          refine ⟨acc', S2, z.re (fun x hx => ?_) fun a => ?_, k3⟩
          · simp only [List.mem_append, List.mem_cons] at hx ⊢
            rcases hx with h | h
            · exact .inl h
            · exact .inr (.inr (.inr h))
          · show List.count a (own ([(V.ref Dl, GV.fl acc')] ++ (τw ++ rest))) ≤ List.count a (own ([(V.ref Dl, GV.fl acc')] ++ (τw1 ++ (τh1 ++ (τw ++ rest)))))
            simp only [own_app, List.count_append]; omega
        | exc => rw [e] at k3; exact k3.elim
        | bad => rw [e] at k3; exact k3.elim
    · have he' : i = xs.length := by omega
      subst he'
      rw [List.drop_length] at q'
      refine .inl ⟨iok.stop S' _ H' hs' hm, q' (.ref Dl) H' τρ1 sl1 (hs'.re (fun x hx => ?_) fun a => ?_)⟩
      · simp only [List.mem_append, List.mem_cons, rest] at hx ⊢
        rcases hx with h | h
        · exact .inl h
        · exact .inr (.inr (.inr h))
      · show List.count a (own ([(V.ref Dl, GV.fl acc)] ++ (τρ1 ++ τ))) ≤ List.count a (own ([(V.ref Dl, GV.fl acc)] ++ (τw ++ (τh ++ (τρ1 ++ τ)))))
        simp only [own_app, List.count_append]; omega
theorem snd_lc2 {src src1 : M (List D)} {b b1 : GV → M Unit} {cd cd1 : M Bool} {el : M GV} {g g1 : TG} {tg tg1 elt iter iter1 : Expr} {ifs ifs1 : List Expr} {scope : Scope} {own' : List (Str × Nat)} {vs1 : List Nat} {pos : Pos} (hc : X.calm = true) (hN : X.N.Nodup) (hi : SndI X C src tg iter) (ok : BlkOk X.N X.env.scope scope own') (hv : ∀ i ∈ vs1, i ∈ own'.map (·.2))
    (hg : ∀ (s : Shared) (H : Hp) (C' : Addr) (cl : List (Str × Addr)) (fp : List Addr), PG (blkX X scope s H C' cl fp) tg g) (hb : BndOk C g b (own'.map (·.2)))
    (ht : ∀ (s : Shared) (H : Hp) (C' : Addr) (cl : List (Str × Addr)) (fp : List Addr), SndTs (blkX X scope s H C' cl fp) C cd ifs)
    (hi1 : ∀ (s : Shared) (H : Hp) (C' : Addr) (cl : List (Str × Addr)) (fp : List Addr), SndI (blkX X scope s H C' cl fp) C src1 tg1 iter1)
    (hg1 : ∀ (s : Shared) (H : Hp) (C' : Addr) (cl : List (Str × Addr)) (fp : List Addr), PG (blkX X scope s H C' cl fp) tg1 g1) (hb1 : BndOk C g1 b1 vs1)
    (ht1 : ∀ (s : Shared) (H : Hp) (C' : Addr) (cl : List (Str × Addr)) (fp : List Addr), SndTs (blkX X scope s H C' cl fp) C cd1 ifs1)
    (he : ∀ (s : Shared) (H : Hp) (C' : Addr) (cl : List (Str × Addr)) (fp : List Addr), Snd (blkX X scope s H C' cl fp) C el elt)
    (hf : notSetE iter = true) (hf1 : notSetE iter1 = true) :
    Snd X C (cLc2 src b cd src1 b1 cd1 el (own'.map (·.2)) vs1) (.ListComp elt [⟨tg, iter, ifs, 0⟩, ⟨tg1, iter1, ifs1, 0⟩] scope pos) := fun σ ρ S τρ τ H Q sl hs q =>
  ue_of (pe_lc2 hc hN pi_u ok hv hg ptsB piB hg1 ptsB peB (isFold_no (by unfold notSetE at hf; exact hf)) (fun env => isFold_no (by unfold notSetE at hf1; exact hf1))) (go_lc2 hi hb ht hi1 hb1 ht1 he sl hs q)
theorem snds_lc2 {src src1 : M (List D)} {b b1 : GV → M Unit} {cd cd1 : M Bool} {el : M GV} {g g1 : TG} {tg tg1 elt iter iter1 : Expr} {ifs ifs1 : List Expr} {scope : Scope} {own' : List (Str × Nat)} {vs1 : List Nat} {pos spos : Pos} {i : Nat} {k : Kind} {y : Str} {py : Pos} (hc : X.calm = true) (hN : X.N.Nodup) (hy : X.N[i]? = some y) (hyl : X.env.scope.names.lookup y = some .local)
    (hsw : swapsWith (.ListComp elt [⟨tg, iter, ifs, 0⟩, ⟨tg1, iter1, ifs1, 0⟩] scope pos) (some (.Name y py)) spos.line X.env = pure true) (hi : SndI X C src tg iter) (ok : BlkOk X.N X.env.scope scope own') (hv : ∀ i ∈ vs1, i ∈ own'.map (·.2))
    (hg : ∀ (s : Shared) (H : Hp) (C' : Addr) (cl : List (Str × Addr)) (fp : List Addr), PG (blkX X scope s H C' cl fp) tg g) (hb : BndOk C g b (own'.map (·.2)))
    (ht : ∀ (s : Shared) (H : Hp) (C' : Addr) (cl : List (Str × Addr)) (fp : List Addr), SndTs (blkX X scope s H C' cl fp) C cd ifs)
    (hi1 : ∀ (s : Shared) (H : Hp) (C' : Addr) (cl : List (Str × Addr)) (fp : List Addr), SndI (blkX X scope s H C' cl fp) C src1 tg1 iter1)
    (hg1 : ∀ (s : Shared) (H : Hp) (C' : Addr) (cl : List (Str × Addr)) (fp : List Addr), PG (blkX X scope s H C' cl fp) tg1 g1) (hb1 : BndOk C g1 b1 vs1)
    (ht1 : ∀ (s : Shared) (H : Hp) (C' : Addr) (cl : List (Str × Addr)) (fp : List Addr), SndTs (blkX X scope s H C' cl fp) C cd1 ifs1)
    (he : ∀ (s : Shared) (H : Hp) (C' : Addr) (cl : List (Str × Addr)) (fp : List Addr), Snd (blkX X scope s H C' cl fp) C el elt)
    (hf : notSetE iter = true) (hf1 : notSetE iter1 = true) :
    SndS X C (sAsg (gNm i k) (cLc2 src b cd src1 b1 cd1 el (own'.map (·.2)) vs1)) (.Assign [.Name y py] (.ListComp elt [⟨tg, iter, ifs, 0⟩, ⟨tg1, iter1, ifs1, 0⟩] scope pos) spos) := fun σ ρ S τρ τ H D sl hs q =>
  us_of (ps_setLc2 hc hN hy hyl hsw pi_u ok hv hg ptsB piB hg1 ptsB peB (isFold_no (by unfold notSetE at hf; exact hf)) (fun env => isFold_no (by unfold notSetE at hf1; exact hf1))) (by
    show tLc2 _ _ _ _ _ _ _ _ _ σ H fun x H1 => gName i x σ H1 D.nx
    refine go_lc2 hi hb ht hi1 hb1 ht1 he sl hs (R.post_imp (R.post_fl q) fun g t k v H1 τρ1 sl1 hs1 => ?_)
    obtain ⟨t', τ', s1, z1, k1⟩ := go_name (α := Unit) sl1 hs1 k
    exact k1 _ H1 τ' s1 z1)
end
end Mi

set_option Elab.async false
set_option linter.all false
set_option maxRecDepth 100000
set_option maxHeartbeats 4000000
/-! MZ: list(zip(a, b)) of two lists or two tuples. -/
namespace Mi
open PySem PySem.Spec PyProof.Rows L2 PySem.W PySem.SeqAt
/-- an iterator and its sequence: tp a tuple's, else a list's -/
def ItAt (tp : Bool) (h : Heap) (i l : Addr) (k : Nat) : Prop := if tp = true then h.IsTupleIter i l k else h.IsListIter i l k
def SqAt (tp : Bool) (h : Heap) (l : Addr) (xs : Array Value) : Prop := if tp = true then h.IsTuple l xs else h.IsList l xs
theorem ItAt.at {tp : Bool} {h h' : Heap} {i l : Addr} {k : Nat} (x : ItAt tp h i l k) (e : ∀ o, h.get? i = some o → h'.get? i = some o) : ItAt tp h' i l k := by
  cases tp
  · exact Heap.IsListIter.at x e
  · exact Heap.IsTupleIter.at x e
theorem SqAt.at {tp : Bool} {h h' : Heap} {l : Addr} {xs : Array Value} (x : SqAt tp h l xs) (e : ∀ o, h.get? l = some o → h'.get? l = some o) : SqAt tp h' l xs := by
  cases tp
  · exact Heap.IsList.at x e
  · exact Heap.IsTuple.at x e
section
variable {prog : Program} {w : World} {A : Around} {E : Value → Shared → Prop} {s : Shared}
theorem nx_item {tp : Bool} {it l : Addr} {i : Nat} {items : Array Value} {x : Value} {Q : Value → Shared → Prop} (hit : ItAt tp s.heap it l i) (hl : SqAt tp s.heap l items) (hx : items[i]? = some x)
    (hQ : ∀ h', ItAt tp h' it l (i + 1) → Heap.SameBut it s.heap h' → Q x { s with heap := h' }) : wpAny (model prog w) A (Builtin.SmallTypes.nextOf (.ref it)) Q E s := by
  cases tp
  · exact wpAny_nextOf_list_item hit hl hx hQ
  · exact RZ.nextOf_tuple_item hit hl hx hQ
theorem nx_end {tp : Bool} {it l : Addr} {i : Nat} {items : Array Value} {Q : Value → Shared → Prop} (hh : A.handled = none) (hit : ItAt tp s.heap it l i) (hl : SqAt tp s.heap l items) (hx : items[i]? = none)
    (hE : ∀ h' e, Heap.ExtBut it s.heap h' → (∃ o, h'.get? e = some o ∧ o.cls = .type "StopIteration") → E (.ref e) { s with heap := h' }) : wpAny (model prog w) A (Builtin.SmallTypes.nextOf (.ref it)) Q E s := by
  cases tp
  · exact wpAny_nextOf_list_end hh hit hl hx hE
  · exact RZ.nextOf_tuple_end hh hit hl hx hE
/-- the zip's next turn while its last tuple is kept elsewhere: one more pair -/
theorem zh_item {tp : Bool} {z TI TO T i1 i2 l1 l2 : Addr} {f : Bool} {oT : Obj} {k1 k2 : Nat} {xs ys : Array Value} {x y : Value} {Q : Option Value → Shared → Prop} (D : ZipApart z TI TO i1 i2 l1 l2)
    (hz : IsZipHeld s.heap z TI TO T f) (hT : s.heap.get? T = some oT) (hTI : IsPair s.heap TI (.ref i1) (.ref i2))
    (h1 : ItAt tp s.heap i1 l1 k1) (h2 : ItAt tp s.heap i2 l2 k2) (hl1 : SqAt tp s.heap l1 xs) (hl2 : SqAt tp s.heap l2 ys) (hx : xs[k1]? = some x) (hy : ys[k2]? = some y)
    (hQ : ∀ h', IsZipHeld h' z TI TO T true → ItAt tp h' i1 l1 (k1 + 1) → ItAt tp h' i2 l2 (k2 + 1) → IsPair h' s.heap.objs.size x y → h'.objs.size = s.heap.objs.size + 1 →
      (∀ c o, c ≠ z → c ≠ i1 → c ≠ i2 → s.heap.get? c = some o → h'.get? c = some o) → Q (some (.ref s.heap.objs.size)) { s with heap := h' }) :
    wpAny (model prog w) A (pyNext (.ref z)) Q E s := by
  cases tp
  · exact wpAny_pyNext_zip_item_held D hz hT hTI h1 h2 hl1 hl2 hx hy hQ
  have hTy : s.TypeIs (.ref z) "zip" := ⟨_, hz, rfl⟩
  unfold pyNext
  refine wpAny_bind (wpAny_attempt (wpAny_callSpecial?_slot (name := Str.ofString "__next__") hTy F.slot_zip_next (wpAny_call_entry F.slot_zip_next hTy F.entry_zip_next (?_ :
    wpAny (model prog w) _ (Builtin.«zip.__next__» ⟨[.ref z], []⟩) (fun fin s' => ∃ v, fin = .done (.ret v) ∧ _) _ s) (F.args_zip_next_1 _))))
  show wpAny _ _ (field (.ref z) 2 >>= _) _ _ _
  refine wpAny_bind (wpAny_field hz rfl (x := .bool false) rfl ?_)
  show wpAny _ _ (field (.ref z) 3 >>= _) _ _ _
  refine wpAny_bind (wpAny_field hz rfl (x := .ref TI) rfl ?_)
  refine wpAny_bind (wpAny_seqItems hTI rfl ?_)
  show wpAny _ _ (Builtin.SmallTypes.ownedTupleIsFree (.ref z) >>= _) _ _ _
  refine wpAny_bind (wpAny_tupleHeld_zip hz hT fun ha hza hsa => ?_)
  simp only [Bool.false_eq_true, if_false]
  refine wpAny_bind ?_
  rw [← Array.forIn_toList]
  simp only [List.forIn_cons, List.forIn_nil]
  refine wpAny_bind (wpAny_bind (wpAny_holding ?_))
  show wpAny _ _ (Builtin.SmallTypes.nextOf (.ref i1) >>= _) _ _ _
  refine wpAny_bind (nx_item (tp := true) (s := { s with heap := ha }) (h1.at fun o e => hsa.extBut _ _ D.i1z e) (hl1.at fun o e => hsa.extBut _ _ D.l1z e) hx fun hb h1b hsb => wpAny_pure ?_)
  refine wpAny_pure ?_
  refine wpAny_bind (wpAny_bind (wpAny_holding ?_))
  show wpAny _ _ (Builtin.SmallTypes.nextOf (.ref i2) >>= _) _ _ _
  refine wpAny_bind (nx_item (tp := true) (s := { s with heap := hb }) (h2.at fun o e => hsb.extBut _ _ D.i12.symm (hsa.extBut _ _ D.i2z e)) (hl2.at fun o e => hsb.extBut _ _ D.l2i1 (hsa.extBut _ _ D.l2z e)) hy fun hc h2c hsc => wpAny_pure ?_)
  refine wpAny_pure (wpAny_pure ?_)
  show wpAny _ _ (newTuple [x, y] >>= _) _ _ _
  refine wpAny_bind (wpAny_newTuple ?_)
  have hsz : hc.objs.size = s.heap.objs.size := by rw [hsc.1, hsb.1, hsa.1]
  have hzc : IsZipHeld hc z TI TO T true := hsc.extBut _ _ D.i2z.symm (hsb.extBut _ _ D.i1z.symm hza)
  have kp : ∀ c o, c ≠ z → c ≠ i1 → c ≠ i2 → s.heap.get? c = some o → hc.get? c = some o := fun c o c1 c2 c3 e => hsc.extBut _ _ c3 (hsb.extBut _ _ c2 (hsa.extBut _ _ c1 e))
  have h1c : ItAt true hc i1 l1 (k1 + 1) := h1b.at fun o e => hsc.extBut _ _ D.i12 e
  have hp : IsPair (hc.push { cls := .type "tuple", data := .seq #[x, y] }) hc.objs.size x y := Heap.get?_push_size _ rfl
  have hz4 : (hc.push { cls := .type "tuple", data := .seq #[x, y] }).objs.size = hc.objs.size + 1 := Heap.size_push ..
  refine wpAny_pure ⟨.ref hc.objs.size, rfl, wpAny_pure ?_⟩
  rw [hsz] at hp hz4 ⊢
  exact hQ _ (Heap.get?_push_of_some _ hzc) (h1c.at fun o e => Heap.get?_push_of_some _ e) (h2c.at fun o e => Heap.get?_push_of_some _ e) hp hz4 fun c o c1 c2 c3 e => Heap.get?_push_of_some _ (kp c o c1 c2 c3 e)
theorem zh_end {tp : Bool} {z TI TO T i1 i2 l1 l2 : Addr} {f : Bool} {oT : Obj} {k1 k2 : Nat} {xs ys : Array Value} {Q : Option Value → Shared → Prop} (hh : A.handled = none) (D : ZipApart z TI TO i1 i2 l1 l2)
    (hz : IsZipHeld s.heap z TI TO T f) (hT : s.heap.get? T = some oT) (hTI : IsPair s.heap TI (.ref i1) (.ref i2))
    (h1 : ItAt tp s.heap i1 l1 k1) (h2 : ItAt tp s.heap i2 l2 k2) (hl1 : SqAt tp s.heap l1 xs) (hl2 : SqAt tp s.heap l2 ys) (hend : xs[k1]? = none ∨ ys[k2]? = none)
    (hQ : ∀ h', (∀ c o, c ≠ z → c ≠ i1 → c ≠ i2 → s.heap.get? c = some o → h'.get? c = some o) → Q none { s with heap := h' }) : wpAny (model prog w) A (pyNext (.ref z)) Q E s := by
  cases tp
  · exact wpAny_pyNext_zip_end_held hh D hz hT hTI h1 h2 hl1 hl2 hend hQ
  have hTy : s.TypeIs (.ref z) "zip" := ⟨_, hz, rfl⟩
  unfold pyNext
  refine wpAny_bind (wpAny_attempt (wpAny_callSpecial?_slot (name := Str.ofString "__next__") hTy F.slot_zip_next (wpAny_call_entry F.slot_zip_next hTy F.entry_zip_next ?_ (F.args_zip_next_1 _))))
  have fin : ∀ (h' : Heap) (e : Addr), (∀ c o, c ≠ z → c ≠ i1 → c ≠ i2 → s.heap.get? c = some o → h'.get? c = some o) → (∃ o, h'.get? e = some o ∧ o.cls = .type "StopIteration") →
      wpAny (model prog w) A (do if ← isInstance (.ref e) (.type "StopIteration") then pure none else throw (.ref e)) Q E { s with heap := h' } := fun h' e hk he => by
    obtain ⟨o, ho, hc⟩ := he
    refine wpAny_bind (wpAny_isInstance (T := "StopIteration") (b := true) ⟨o, ho, hc⟩ isSubtype_stop ?_)
    exact wpAny_pure (hQ _ hk)
  show wpAny _ _ (field (.ref z) 2 >>= _) _ _ _
  refine wpAny_bind (wpAny_field hz rfl (x := .bool false) rfl ?_)
  show wpAny _ _ (field (.ref z) 3 >>= _) _ _ _
  refine wpAny_bind (wpAny_field hz rfl (x := .ref TI) rfl ?_)
  refine wpAny_bind (wpAny_seqItems hTI rfl ?_)
  show wpAny _ _ (Builtin.SmallTypes.ownedTupleIsFree (.ref z) >>= _) _ _ _
  refine wpAny_bind (wpAny_tupleHeld_zip hz hT fun ha hza hsa => ?_)
  simp only [Bool.false_eq_true, if_false]
  refine wpAny_bind ?_
  rw [← Array.forIn_toList]
  simp only [List.forIn_cons, List.forIn_nil]
  refine wpAny_bind (wpAny_bind (wpAny_holding ?_))
  show wpAny _ _ (Builtin.SmallTypes.nextOf (.ref i1) >>= _) _ _ _
  cases hx : xs[k1]? with
  | none =>
    refine wpAny_bind (nx_end (tp := true) (s := { s with heap := ha }) hh (h1.at fun o e => hsa.extBut _ _ D.i1z e) (hl1.at fun o e => hsa.extBut _ _ D.l1z e) hx fun hb e hsb he => ?_)
    exact fin hb e (fun c o c1 c2 _ q => hsb _ _ c2 (hsa.extBut _ _ c1 q)) he
  | some x =>
    have hy : ys[k2]? = none := by rcases hend with h | h; rw [hx] at h; cases h; exact h
    refine wpAny_bind (nx_item (tp := true) (s := { s with heap := ha }) (h1.at fun o e => hsa.extBut _ _ D.i1z e) (hl1.at fun o e => hsa.extBut _ _ D.l1z e) hx fun hb h1b hsb => wpAny_pure ?_)
    refine wpAny_pure ?_
    refine wpAny_bind (wpAny_bind (wpAny_holding ?_))
    show wpAny _ _ (Builtin.SmallTypes.nextOf (.ref i2) >>= _) _ _ _
    refine wpAny_bind (nx_end (tp := true) (s := { s with heap := hb }) hh (h2.at fun o e => hsb.extBut _ _ D.i12.symm (hsa.extBut _ _ D.i2z e)) (hl2.at fun o e => hsb.extBut _ _ D.l2i1 (hsa.extBut _ _ D.l2z e)) hy fun hc e hsc he => ?_)
    exact fin hc e (fun c o c1 c2 c3 q => hsc _ _ c3 (hsb.extBut _ _ c2 (hsa.extBut _ _ c1 q))) he
end

/-- the zip at turn i; S: a list that is none of its parts -/
structure ZSt (tp : Bool) (h : Heap) (z TI TO i1 i2 l1 l2 S : Addr) (xs ys : Array Value) (i : Nat) : Prop where
  ti : IsPair h TI (.ref i1) (.ref i2)
  it1 : ItAt tp h i1 l1 i
  it2 : ItAt tp h i2 l2 i
  s1 : SqAt tp h l1 xs
  s2 : SqAt tp h l2 ys
  z : (IsZip h z TI TO .none ∧ ∃ x y, IsPair h TO x y) ∨ ∃ T f oT, IsZipHeld h z TI TO T f ∧ h.get? T = some oT ∧ T ≠ z ∧ T ≠ i1 ∧ T ≠ i2 ∧ T ≠ S
/-- apart from S -/
structure SOff (z TI TO i1 i2 l1 l2 S : Addr) : Prop where
  z : z < S
  ti : TI < S
  to : TO < S
  i1 : i1 < S
  i2 : i2 < S
  l1 : l1 < S
  l2 : l2 < S
theorem ZSt.keep {tp : Bool} {h h' : Heap} {z TI TO i1 i2 l1 l2 S : Addr} {xs ys : Array Value} {i : Nat} (x : ZSt tp h z TI TO i1 i2 l1 l2 S xs ys i) (off : SOff z TI TO i1 i2 l1 l2 S) (k : ∀ b o, b ≠ S → h.get? b = some o → h'.get? b = some o) : ZSt tp h' z TI TO i1 i2 l1 l2 S xs ys i := by
  refine ⟨k _ _ (Nat.ne_of_lt off.ti) x.ti, x.it1.at fun o e => k _ _ (Nat.ne_of_lt off.i1) e, x.it2.at fun o e => k _ _ (Nat.ne_of_lt off.i2) e, x.s1.at fun o e => k _ _ (Nat.ne_of_lt off.l1) e, x.s2.at fun o e => k _ _ (Nat.ne_of_lt off.l2) e, ?_⟩
  rcases x.z with ⟨h1, u, v, h2⟩ | ⟨T, f, oT, h1, h2, h3, h4, h5, h6⟩
  · exact .inl ⟨k _ _ (Nat.ne_of_lt off.z) h1, u, v, k _ _ (Nat.ne_of_lt off.to) h2⟩
  · exact .inr ⟨T, f, oT, k _ _ (Nat.ne_of_lt off.z) h1, k _ _ h6 h2, h3, h4, h5, h6⟩
theorem ItAt.lt {tp : Bool} {h : Heap} {i l : Addr} {k : Nat} (x : ItAt tp h i l k) : i < h.objs.size := by
  cases tp
  · obtain ⟨_, e, _⟩ := x; exact Heap.lt_size e
  · obtain ⟨_, e, _⟩ := x; exact Heap.lt_size e
/-- the pairs laid -/
structure ZG (xs ys : Array Value) (lo : Addr) (h : Heap) (as : List Addr) : Prop where
  rise : as.Pairwise (· < ·)
  above : ∀ a ∈ as, lo < a
  pairs : ∀ (j : Nat) (a : Addr), as[j]? = some a → ∃ x y, xs[j]? = some x ∧ ys[j]? = some y ∧ IsPair h a x y
theorem ZG.there {xs ys : Array Value} {lo : Addr} {h : Heap} {as : List Addr} (g : ZG xs ys lo h as) {a : Addr} (ha : a ∈ as) : a < h.objs.size := by
  obtain ⟨j, hj⟩ := List.mem_iff_getElem?.mp ha
  obtain ⟨_, _, _, _, e⟩ := g.pairs j a hj
  exact Heap.lt_size e
section
variable {prog : Program} {w : World} {A : Around} {E : Value → Shared → Prop} {s : Shared}
theorem zs_item {tp : Bool} {z TI TO i1 i2 l1 l2 S : Addr} {xs ys : Array Value} {i : Nat} {x y : Value} {Q : Option Value → Shared → Prop} (D : ZipApart z TI TO i1 i2 l1 l2) (off : SOff z TI TO i1 i2 l1 l2 S) (hS : S < s.heap.objs.size) (st : ZSt tp s.heap z TI TO i1 i2 l1 l2 S xs ys i)
    (hx : xs[i]? = some x) (hy : ys[i]? = some y) (hQ : ∀ h', ZSt tp h' z TI TO i1 i2 l1 l2 S xs ys (i + 1) → IsPair h' s.heap.objs.size x y → h'.objs.size = s.heap.objs.size + 1 →
      (∀ c o, c ≠ z → c ≠ TO → c ≠ i1 → c ≠ i2 → s.heap.get? c = some o → h'.get? c = some o) → Q (some (.ref s.heap.objs.size)) { s with heap := h' }) : wpAny (model prog w) A (pyNext (.ref z)) Q E s := by
  have b1 := st.it1.lt
  have b2 := st.it2.lt
  rcases st.z with ⟨h1, u, v, h2⟩ | ⟨T, f, oT, h1, h2, h3, h4, h5, h6⟩
  · have bz : z < s.heap.objs.size := Heap.lt_size h1
    have fin : ∀ h', IsZip h' z TI TO (rawInt s.heap.objs.size) → IsPair h' TO x y → ItAt tp h' i1 l1 (i + 1) → ItAt tp h' i2 l2 (i + 1) → IsPair h' s.heap.objs.size x y → h'.objs.size = s.heap.objs.size + 1 →
        (∀ c o, c ≠ z → c ≠ TO → c ≠ i1 → c ≠ i2 → s.heap.get? c = some o → h'.get? c = some o) → Q (some (.ref s.heap.objs.size)) { s with heap := h' } := fun h' a1 a2 a3 a4 a5 a6 a7 =>
      hQ h' ⟨a7 _ _ D.TIz D.TITO D.TIi1 D.TIi2 st.ti, a3, a4, st.s1.at fun o e => a7 _ _ D.l1z D.l1TO D.l1i1 D.l1i2 e, st.s2.at fun o e => a7 _ _ D.l2z D.l2TO D.l2i1 D.l2i2 e,
        .inr ⟨_, false, _, a1, a5, Nat.ne_of_gt bz, Nat.ne_of_gt b1, Nat.ne_of_gt b2, Nat.ne_of_gt hS⟩⟩ a5 a6 a7
    cases tp
    · exact wpAny_pyNext_zip_item D h1 st.ti h2 st.it1 st.it2 st.s1 st.s2 hx hy fin
    · exact RZ.pyNext_zipT_item D h1 st.ti h2 st.it1 st.it2 st.s1 st.s2 hx hy fin
  · refine zh_item D h1 h2 st.ti st.it1 st.it2 st.s1 st.s2 hx hy fun h' a1 a3 a4 a5 a6 a7 => ?_
    exact hQ h' ⟨a7 _ _ D.TIz D.TIi1 D.TIi2 st.ti, a3, a4, st.s1.at fun o e => a7 _ _ D.l1z D.l1i1 D.l1i2 e, st.s2.at fun o e => a7 _ _ D.l2z D.l2i1 D.l2i2 e,
      .inr ⟨T, true, oT, a1, a7 _ _ h3 h4 h5 h2, h3, h4, h5, h6⟩⟩ a5 a6 fun c o c1 _ c3 c4 e => a7 c o c1 c3 c4 e
theorem zs_end {tp : Bool} {z TI TO i1 i2 l1 l2 S : Addr} {xs ys : Array Value} {i : Nat} {Q : Option Value → Shared → Prop} (hh : A.handled = none) (D : ZipApart z TI TO i1 i2 l1 l2) (st : ZSt tp s.heap z TI TO i1 i2 l1 l2 S xs ys i) (hend : xs[i]? = none ∨ ys[i]? = none)
    (hQ : ∀ h', (∀ c o, c ≠ z → c ≠ TO → c ≠ i1 → c ≠ i2 → s.heap.get? c = some o → h'.get? c = some o) → Q none { s with heap := h' }) : wpAny (model prog w) A (pyNext (.ref z)) Q E s := by
  rcases st.z with ⟨h1, u, v, h2⟩ | ⟨T, f, oT, h1, h2, h3, h4, h5, h6⟩
  · cases tp
    · exact wpAny_pyNext_zip_end hh D h1 st.ti h2 st.it1 st.it2 st.s1 st.s2 hend hQ
    · exact RZ.pyNext_zipT_end hh D h1 st.ti h2 st.it1 st.it2 st.s1 st.s2 hend hQ
  · exact zh_end hh D h1 h2 st.ti st.it1 st.it2 st.s1 st.s2 hend fun h' k => hQ h' fun c o c1 _ c3 c4 e => k c o c1 c3 c4 e
end
section
variable {prog : Program} {w : World} {A : Around} {s : Shared} {R : Result → Shared → Prop} {tp : Bool} {z TI TO i1 i2 l1 l2 S : Addr} {xs ys : Array Value}
theorem zl_loop (hh : A.handled = none) (D : ZipApart z TI TO i1 i2 l1 l2) (off : SOff z TI TO i1 i2 l1 l2 S) (hn : min xs.size ys.size ≤ sizeLine) (res : Value) {h₁ : Heap}
    (hR : ∀ h' tk acc c as, (∀ b o, b ≠ S → b ≠ z → b ≠ TO → b ≠ i1 → b ≠ i2 → h₁.get? b = some o → h'.get? b = some o) → h'.get? S = some { cls := .type "list", dict := none, data := .seq acc c, slots := #[] } → as.length = min xs.size ys.size → ZG xs ys S h' as →
      acc.toList = as.map Value.ref → R (.ok (.ret res)) { s with heap := h', toks := tk }) :
    ∀ (k i : Nat) (h : Heap) (tk c : Nat) (acc : Array Value) (as : List Addr), min xs.size ys.size - i = k → i ≤ min xs.size ys.size → ZSt tp h z TI TO i1 i2 l1 l2 S xs ys i → (∀ b o, b ≠ S → b ≠ z → b ≠ TO → b ≠ i1 → b ≠ i2 → h₁.get? b = some o → h.get? b = some o) →
      h.get? S = some { cls := .type "list", dict := none, data := .seq acc c, slots := #[] } → acc.toList = as.map Value.ref → as.length = i → ZG xs ys S h as →
      codeAny (model prog w) A (.builtin "list.extend.loop" ⟨[.ref S, .ref z, res], []⟩) R { s with heap := h, toks := tk } := by
  intro k
  have Sz : S ≠ z := Nat.ne_of_gt off.z
  have So : S ≠ TO := Nat.ne_of_gt off.to
  have S1 : S ≠ i1 := Nat.ne_of_gt off.i1
  have S2 : S ≠ i2 := Nat.ne_of_gt off.i2
  have aboveOff : ∀ b, S < b → b ≠ z ∧ b ≠ TO ∧ b ≠ i1 ∧ b ≠ i2 := fun b hb => ⟨Nat.ne_of_gt (Nat.lt_trans off.z hb), Nat.ne_of_gt (Nat.lt_trans off.to hb), Nat.ne_of_gt (Nat.lt_trans off.i1 hb), Nat.ne_of_gt (Nat.lt_trans off.i2 hb)⟩
  induction k with
  | zero =>
    intro i h tk c acc as hk hi hst hkeep hS hacc hal hG
    refine codeAny_builtin PySem.F.entry_extend_loop ?_
    rw [Around.under_plainId PySem.F.plain_extend_loop _]
    show wpAny _ A.in1 (pyNext (.ref z) >>= _) _ _ _
    have hend : xs[i]? = none ∨ ys[i]? = none := by
      rw [Array.getElem?_eq_none_iff, Array.getElem?_eq_none_iff]; omega
    refine wpAny_bind (zs_end (s := { s with heap := h, toks := tk }) (A := A.in1) hh D hst hend fun h' he => ?_)
    refine wpAny_pure (hR h' tk acc c as (fun b o h1 h2 h3 h4 h5 e => he b o h2 h3 h4 h5 (hkeep b o h1 h2 h3 h4 h5 e)) (he S _ Sz So S1 S2 hS) (by omega) ⟨hG.rise, hG.above, fun j a hj => ?_⟩ hacc)
    obtain ⟨x, y, e1, e2, e3⟩ := hG.pairs j a hj
    obtain ⟨n1, n2, n3, n4⟩ := aboveOff a (hG.above a (List.mem_of_getElem? hj))
    exact ⟨x, y, e1, e2, he a _ n1 n2 n3 n4 e3⟩
  | succ k ih =>
    intro i h tk c acc as hk hi hst hkeep hS hacc hal hG
    have hlt : i < min xs.size ys.size := by omega
    obtain ⟨x, hx⟩ : ∃ p, xs[i]? = some p := ⟨xs[i]'(by omega), Array.getElem?_eq_getElem (by omega)⟩
    obtain ⟨y, hy⟩ : ∃ p, ys[i]? = some p := ⟨ys[i]'(by omega), Array.getElem?_eq_getElem (by omega)⟩
    have hsz : acc.size = i := by rw [← Array.length_toList, hacc, List.length_map, hal]
    have hSl : S < h.objs.size := Heap.lt_size hS
    refine codeAny_builtin PySem.F.entry_extend_loop ?_
    rw [Around.under_plainId PySem.F.plain_extend_loop _]
    show wpAny _ A.in1 (pyNext (.ref z) >>= _) _ _ _
    refine wpAny_bind (zs_item (s := { s with heap := h, toks := tk }) D off hSl hst hx hy fun h' hst' ht hz hkp => ?_)
    dsimp only at ht hz hkp ⊢
    have hS' := hkp S _ Sz So S1 S2 hS
    have up : ∀ b o, b ≠ S → h'.get? b = some o → (h'.update S (Obj.mapSeq (·.push (Value.ref h.objs.size)))).get? b = some o := fun b o hb e => (Heap.get?_update_other _ _ (Ne.symm hb)).trans e
    show wpAny _ A.in1 (updateSeq S (·.push (Value.ref h.objs.size)) >>= _) _ _ _
    refine wpAny_bind ?_
    refine wpAny_updateSeq hS' rfl (wpAny_pure ⟨plainId_quiet PySem.F.plain_extend_loop _, ih (i + 1) _ tk _ (acc.push (Value.ref h.objs.size)) (as ++ [h.objs.size]) (by omega) hlt (hst'.keep off up)
      (fun b o h1 h2 h3 h4 h5 e => up b o h1 (hkp b o h2 h3 h4 h5 (hkeep b o h1 h2 h3 h4 h5 e))) (Heap.get?_update_self _ hS' rfl) (by rw [Array.toList_push, hacc, List.map_append]; rfl) (by rw [List.length_append, hal]; rfl) ⟨?_, ?_, ?_⟩⟩) (by rw [hsz]; omega) (by show (acc.push (Value.ref h.objs.size)).size ≤ sizeLine + 1; rw [Array.size_push, hsz]; omega)
    · refine List.pairwise_append.mpr ⟨hG.rise, List.pairwise_singleton _ _, fun a ha b hb => ?_⟩
      rw [List.mem_singleton.mp hb]
      exact hG.there ha
    · intro a ha
      rcases List.mem_append.mp ha with ha | ha
      · exact hG.above a ha
      · rw [List.mem_singleton.mp ha]; exact hSl
    · intro j b hj
      rcases Nat.lt_trichotomy j as.length with h1 | h1 | h1
      · rw [List.getElem?_append_left h1] at hj
        obtain ⟨x', y', e1, e2, e3⟩ := hG.pairs j b hj
        have hb := hG.above b (List.mem_of_getElem? hj)
        obtain ⟨n1, n2, n3, n4⟩ := aboveOff b hb
        exact ⟨x', y', e1, e2, up b _ (Nat.ne_of_gt hb) (hkp b _ n1 n2 n3 n4 e3)⟩
      · subst h1
        have hb : h.objs.size = b := by simpa using hj
        subst hb
        exact ⟨x, y, by rw [hal]; exact hx, by rw [hal]; exact hy, up _ _ (Nat.ne_of_gt hSl) ht⟩
      · have hnone : (as ++ [h.objs.size])[j]? = none := List.getElem?_eq_none (by rw [List.length_append, List.length_singleton]; omega)
        rw [hnone] at hj; cases hj
end
theorem zip_len : typeLookup (.type "zip") "__len__" = pure none := am_miss_of_fast (by decide +kernel)
theorem zip_hint : typeLookup (.type "zip") "__length_hint__" = pure none := am_miss_of_fast (by decide +kernel)
section
variable {prog : Program} {w : World} {A : Around} {E : Value → Shared → Prop} {s : Shared} {R : Result → Shared → Prop} {tp : Bool} {z TI TO i1 i2 l1 l2 S : Addr} {xs ys : Array Value}
theorem zl_extend (hh : A.handled = none) (D : ZipApart z TI TO i1 i2 l1 l2) (off : SOff z TI TO i1 i2 l1 l2 S) (hn : min xs.size ys.size ≤ sizeLine) (res : Value) (st : ZSt tp s.heap z TI TO i1 i2 l1 l2 S xs ys 0) (hz : IsZip s.heap z TI TO .none) (c₀ : Nat) (hS : s.heap.get? S = some { cls := .type "list", data := .seq #[] c₀ })
    (hR : ∀ h' tk acc c as, (∀ b o, b ≠ S → b ≠ z → b ≠ TO → b ≠ i1 → b ≠ i2 → s.heap.get? b = some o → h'.get? b = some o) → h'.get? S = some { cls := .type "list", dict := none, data := .seq acc c, slots := #[] } → as.length = min xs.size ys.size → ZG xs ys S h' as →
      acc.toList = as.map Value.ref → R (.ok (.ret res)) { s with heap := h', toks := tk }) :
    wpAny (model prog w) A.in1 (Builtin.List.listExtendWith (.ref S) (.ref z) res)
      (fun fin s' => match fin with | .done f => R (.ok f) s' | .again c' => c'.quiet = true ∧ codeAny (model prog w) A c' R s') (fun e s' => R (.error e) s') s := by
  have key : ∀ (h : Heap) (c₁ tk : Nat), (∀ b o, b ≠ S → s.heap.get? b = some o → h.get? b = some o) → h.get? S = some { cls := .type "list", data := .seq #[] c₁ } →
      codeAny (model prog w) A (.builtin "list.extend.loop" ⟨[.ref S, .ref z, res], []⟩) R { s with heap := h, toks := tk } := fun h c₁ tk hk hS₁ =>
    zl_loop (tp := tp) (s := s) (h₁ := s.heap) hh D off hn res hR _ 0 h tk c₁ #[] [] (Nat.sub_zero _) (Nat.zero_le _) (st.keep off hk) (fun b o h1 _ _ _ _ e => hk b o h1 e) hS₁ rfl rfl
      ⟨List.Pairwise.nil, (fun _ ha => nomatch ha), (fun j a hj => by simp at hj)⟩
  have hT : s.TypeIs (.ref z) "zip" := ⟨_, hz, rfl⟩
  have Sz : S ≠ z := Nat.ne_of_gt off.z
  unfold Builtin.List.listExtendWith
  refine wpAny_bind (wpAny_typeOf (T := "zip") hT ?_)
  have h1 : Builtin.List.listSameRef (.ref S) (.ref z) = false := by simp [Builtin.List.listSameRef, Sz]
  have h2 : (Value.type "zip" == Value.type "list") = false := by decide
  have h3 : (Value.type "zip" == Value.type "tuple") = false := by decide
  simp only [h1, h2, h3, Bool.or_false, Bool.false_eq_true, if_false]
  refine wpAny_bind (wpAny_pyIter_zip hz ?_)
  refine wpAny_bind (wpAny_holding ?_)
  unfold Builtin.List.listLengthHint
  refine wpAny_bind (wpAny_specialOf hT zip_len ?_)
  show wpAny _ A.in1 (specialOf (Value.ref z) (Str.ofString "__length_hint__") >>= _) _ _ _
  refine wpAny_bind (wpAny_specialOf hT zip_hint ?_)
  refine wpAny_pure ?_
  show wpAny _ A.in1 (rule "list.extend.makes-room" >>= fun _ => Builtin.List.listTouch (.ref S) >>= fun _ => again (.builtin "list.extend.loop" ⟨[.ref S, .ref z, res], []⟩)) _ _ _
  refine wpAny_bind (wpAny_rule ?_)
  refine wpAny_bind ?_
  show wpAny _ _ (updateSeq S (·.push .none) >>= fun _ => updateSeq S (·.pop)) _ _ _
  refine wpAny_bind (wpAny_updateSeq hS rfl ?_)
  have hS₂ := Heap.get?_update_self (Obj.mapSeq (·.push Value.none)) hS rfl
  refine wpAny_updateSeq (hz := by seq_fits) hS₂ rfl ?_
  have hS₃ := Heap.get?_update_self (Obj.mapSeq (·.pop)) hS₂ rfl
  refine wpAny_pure ⟨plainId_quiet PySem.F.plain_extend_loop _, key _ _ _ (fun b o hb e => ?_) hS₃⟩
  exact (Heap.get?_update_other _ _ (Ne.symm hb)).trans ((Heap.get?_update_other _ _ (Ne.symm hb)).trans e)
theorem zl_init (hh : A.handled = none) (D : ZipApart z TI TO i1 i2 l1 l2) (off : SOff z TI TO i1 i2 l1 l2 S) (hn : min xs.size ys.size ≤ sizeLine) (st : ZSt tp s.heap z TI TO i1 i2 l1 l2 S xs ys 0) (hz : IsZip s.heap z TI TO .none) (hS : s.heap.get? S = some { cls := .type "list", data := .seq #[] })
    (hR : ∀ h' tk acc c as, (∀ b o, b ≠ S → b ≠ z → b ≠ TO → b ≠ i1 → b ≠ i2 → s.heap.get? b = some o → h'.get? b = some o) → h'.get? S = some { cls := .type "list", dict := none, data := .seq acc c, slots := #[] } → as.length = min xs.size ys.size → ZG xs ys S h' as →
      acc.toList = as.map Value.ref → R (.ok (.ret .none)) { s with heap := h', toks := tk }) :
    wpAny (model prog w) A.in1 (Builtin.«list.__init__» ⟨[.ref S, .ref z], []⟩)
      (fun fin s' => match fin with | .done f => R (.ok f) s' | .again c' => c'.quiet = true ∧ codeAny (model prog w) A c' R s') (fun e s' => R (.error e) s') s := by
  show wpAny _ _ (do let old ← Builtin.List.listItems (.ref S); Builtin.List.listUpdate (.ref S) (fun _ => #[]); letGo old.toList.reverse; Builtin.List.listExtendWith (.ref S) (.ref z) .none) _ _ s
  refine wpAny_bind ?_
  unfold Builtin.List.listItems
  refine wpAny_bind (wpAny_seqItems hS rfl (wpAny_pure ?_))
  show wpAny _ _ (updateSeq S (fun _ => #[]) >>= fun _ => letGo (#[] : Array Value).toList.reverse >>= fun _ => Builtin.List.listExtendWith (.ref S) (.ref z) .none) _ _ s
  refine wpAny_bind (wpAny_updateSeq hS rfl ?_)
  have hS₂ := Heap.get?_update_self (Obj.mapSeq (fun _ => (#[] : Array Value))) hS rfl
  have oth : ∀ b o, b ≠ S → s.heap.get? b = some o → (s.heap.update S (Obj.mapSeq (fun _ => (#[] : Array Value)))).get? b = some o :=
    fun b o hb e => (Heap.get?_update_other _ _ (Ne.symm hb)).trans e
  refine wpAny_bind (wpAny_letGo ?_)
  refine zl_extend hh D off hn .none (st.keep off oth) (oth z _ (Nat.ne_of_lt off.z) hz) _ hS₂ fun h' tk acc c as hk hS' hl hG hacc => ?_
  exact hR h' tk acc c as (fun b o h1 h2 h3 h4 h5 e => hk b o h1 h2 h3 h4 h5 (oth b o h1 e)) hS' hl hG hacc
theorem zl_call {Q : Value → Shared → Prop} (hh : A.handled = none) (D : ZipApart z TI TO i1 i2 l1 l2) (off : SOff z TI TO i1 i2 l1 l2 s.heap.objs.size) (hn : min xs.size ys.size ≤ sizeLine) (st : ZSt tp s.heap z TI TO i1 i2 l1 l2 s.heap.objs.size xs ys 0) (hz : IsZip s.heap z TI TO .none)
    (hQ : ∀ h' tk acc c as, (∀ b o, b ≠ z → b ≠ TO → b ≠ i1 → b ≠ i2 → s.heap.get? b = some o → h'.get? b = some o) → h'.get? s.heap.objs.size = some { cls := .type "list", dict := none, data := .seq acc c, slots := #[] } → as.length = min xs.size ys.size → ZG xs ys s.heap.objs.size h' as →
      acc.toList = as.map Value.ref → Q (.ref s.heap.objs.size) { s with heap := h', toks := tk }) :
    wpAny (model prog w) A (call (.type "list") [.ref z]) Q E s := by
  refine callType_codes (Q₁ := fun obj s₁ => obj = .ref s.heap.objs.size ∧ s₁ = { s with heap := s.heap.push { cls := .type "list", data := .seq #[] } }) PySem.F.called_list (PySem.F.typeCall_list_1 _) PySem.F.entry_list_init
    (code_list_new _ ⟨rfl, rfl⟩) fun obj s₁ h₁ => ?_
  obtain ⟨rfl, rfl⟩ := h₁
  have hS : (s.heap.push { cls := .type "list", data := .seq #[] }).get? s.heap.objs.size = some { cls := .type "list", data := .seq #[] } := Heap.get?_push_size _ rfl
  refine ⟨⟨_, hS, rfl⟩, PySem.F.args_list_init_2 _ _, zl_init (A := A.in1) hh D off hn (st.keep off fun b o _ e => Heap.get?_push_of_some _ e) (Heap.get?_push_of_some _ hz) hS fun h' tk acc c as hk hS' hl hG hacc => ?_⟩
  exact ⟨rfl, hQ h' tk acc c as (fun b o h2 h3 h4 h5 e => hk b o (Nat.ne_of_lt (Heap.lt_size e)) h2 h3 h4 h5 (Heap.get?_push_of_some _ e)) hS' hl hG hacc⟩
end
end Mi

set_option Elab.async false
set_option linter.all false
set_option maxRecDepth 100000
set_option maxHeartbeats 4000000
/-! MZ2: list(zip(a, b)), the rule. -/
namespace Mi
open PySem PySem.Spec PyProof.Rows L2 PySem.W PySem.SeqAt
/-- the pairs tracked -/
def putP : Hp → List Addr → List (V × V) → Hp
  | H, a :: as, p :: ps => putP (upd H a (.tup [p.1, p.2])) as ps
  | H, _, _ => H
theorem putP_off {b : Addr} : ∀ (as : List Addr) (ps : List (V × V)) (H : Hp), b ∉ as → putP H as ps b = H b
  | [], _, _, _ => rfl
  | _ :: _, [], _, _ => rfl
  | a :: as, p :: ps, H, h => by
    show putP (upd H a (.tup [p.1, p.2])) as ps b = H b
    rw [putP_off as ps _ (fun z => h (List.mem_cons_of_mem _ z)), upd_ne (fun z => h (by rw [z]; exact List.mem_cons_self))]
theorem putP_at : ∀ (as : List Addr) (ps : List (V × V)) (H : Hp) (j : Nat) (a : Addr) (p : V × V), as.Nodup → as[j]? = some a → ps[j]? = some p → putP H as ps a = some (.tup [p.1, p.2])
  | [], _, _, j, a, p, _, e, _ => by simp at e
  | _ :: _, [], _, j, a, p, _, _, e => by simp at e
  | b :: as, q :: ps, H, 0, a, p, n, e1, e2 => by
    simp at e1 e2
    subst e1; subst e2
    show putP (upd H b (.tup [q.1, q.2])) as ps b = _
    rw [putP_off as ps _ (List.nodup_cons.mp n).1, upd_same]
  | b :: as, q :: ps, H, j + 1, a, p, n, e1, e2 => putP_at as ps _ j a p (List.nodup_cons.mp n).2 (by simpa using e1) (by simpa using e2)
theorem vals_refs' : ∀ as : List Addr, Vals (as.map V.ref) (as.map Value.ref)
  | [] => .nil
  | _ :: r => .cons rfl (vals_refs' r)
section
variable {X : Cx} {pins : List (Addr × Obj)} {σ : L2.St} {H : Hp} {s : Shared}
theorem zip_laid {h' : Heap} {tk c : Nat} {acc xs ys : Array Value} {as : List Addr} {ps : List (V × V)} {S : Addr} (I : Inv X pins σ H s) (hk : ∀ b o, s.heap.get? b = some o → h'.get? b = some o) (S0 : s.heap.objs.size ≤ S)
    (hS : h'.get? S = some { cls := .type "list", dict := none, data := .seq acc c, slots := #[] }) (hG : ZG xs ys S h' as) (hacc : acc.toList = as.map Value.ref) (hl : as.length = ps.length)
    (rel : ∀ (j : Nat) (p : V × V), ps[j]? = some p → ∃ x y, xs[j]? = some x ∧ ys[j]? = some y ∧ RelV p.1 x ∧ RelV p.2 y) (hz : as.length ≤ sizeLine) :
    H S = none ∧ (∀ a ∈ as, H a = none) ∧ S ∉ as ∧ as.Nodup ∧ Inv X pins σ (upd (putP H as ps) S (.lst (as.map V.ref))) { s with heap := h', toks := tk } := by
  have hSn : S ∉ as := fun z => Nat.lt_irrefl _ (hG.above _ z)
  have nd : as.Nodup := List.Pairwise.imp (fun {a b} (h : a < b) => Nat.ne_of_lt h) hG.rise
  have new : ∀ t ∈ as, H t = none := fun t ht => I.hok.fresh (Nat.le_trans S0 (Nat.le_of_lt (hG.above t ht)))
  have newS : H S = none := I.hok.fresh S0
  have low : ∀ b o, s.heap.get? b = some o → b ∉ as ∧ b ≠ S := fun b o e => ⟨fun z => absurd (Heap.lt_size e) (Nat.not_lt.mpr (Nat.le_trans S0 (Nat.le_of_lt (hG.above b z)))), fun z => absurd (Heap.lt_size e) (Nat.not_lt.mpr (by rw [z]; exact S0))⟩
  have off : ∀ b, b ∉ as → b ≠ S → upd (putP H as ps) S (.lst (as.map V.ref)) b = H b := fun b h1 h2 => by rw [upd_ne h2, putP_off as ps _ h1]
  have kp : ∀ b u, H b = some u → upd (putP H as ps) S (.lst (as.map V.ref)) b = some u := fun b u e => by
    rw [off b (fun z => by rw [new b z] at e; cases e) (fun z => by rw [z, newS] at e; cases e)]
    exact e
  refine ⟨newS, new, hSn, nd, ?_⟩
  refine I.call' (ch := []) rfl ⟨fun b o q _ _ _ => hk b o q, fun b o q _ _ _ => ⟨o.slots, hk b o q⟩, fun b o q n _ => ?_, fun b o q _ => ⟨o, hk b o q⟩, fun b xs q => kp b _ q, fun b o u q => kp b _ q, fun b ps q => ⟨#[], by rw [kp b _ q]; simp⟩⟩ (fun b u q => ?_) I.bare fun b z => by simp at z
  · obtain ⟨z1, z2⟩ := low b o q
    rw [off b z1 z2]
    exact n
  · by_cases hb2 : b = S
    · rw [hb2] at q ⊢
      rw [upd_same] at q
      cases q
      refine ⟨by rw [List.length_map]; exact hz, acc.toList, c, by rw [hacc]; exact vals_refs' as, ?_⟩
      rw [Array.toArray_toList]
      exact hS
    · by_cases hb : b ∈ as
      · obtain ⟨j, hj⟩ := List.mem_iff_getElem?.mp hb
        have hjl : j < ps.length := by rw [← hl]; exact (List.getElem?_eq_some_iff.mp hj).1
        have hp : ps[j]? = some ps[j] := List.getElem?_eq_getElem hjl
        rw [upd_ne hb2, putP_at as ps H j b ps[j] nd hj hp] at q
        cases q
        obtain ⟨x, y, e1, e2, r1, r2⟩ := rel j _ hp
        obtain ⟨x', y', f1, f2, f3⟩ := hG.pairs j b hj
        rw [e1] at f1; cases f1
        rw [e2] at f2; cases f2
        exact ⟨by show 2 ≤ sizeLine; decide, [x, y], .cons r1 (.cons r2 .nil), ⟨_, f3, rfl, _, rfl⟩⟩
      · rw [off b hb hb2] at q
        exact (I.hok b u q).stay (fun d v _ y => hk d v y) (fun d y => kp d _ y) fun d xs y => kp d _ y
end
def tLZ (K : PySem.W.Frag) (ta : TA) : TE := fun σ H Q => ta σ H fun vs H1 => ∃ a b xs ys, vs = [.ref a, .ref b] ∧ ((SqL K H1 a xs ∧ SqL K H1 b ys) ∨ (SqT K H1 a xs ∧ SqT K H1 b ys)) ∧ min xs.length ys.length ≤ sizeLine ∧
  ∀ S as, H1 S = none → (∀ c ∈ as, H1 c = none) → S ∉ as → as.Nodup → as.length = min xs.length ys.length → Q (.ref S) (upd (putP H1 as (xs.zip ys)) S (.lst (as.map V.ref)))
theorem zip_rel {xs ys : List V} {us ws : List Value} (r1 : Vals xs us) (r2 : Vals ys ws) : ∀ (j : Nat) (p : V × V), (xs.zip ys)[j]? = some p → ∃ x y, us.toArray[j]? = some x ∧ ws.toArray[j]? = some y ∧ RelV p.1 x ∧ RelV p.2 y := by
  intro j p h
  rw [List.getElem?_zip_eq_some] at h
  obtain ⟨h1, h2⟩ := h
  obtain ⟨u, e1, q1⟩ := r1.get h1
  obtain ⟨v, e2, q2⟩ := r2.get h2
  exact ⟨u, v, by simpa using e1, by simpa using e2, q1, q2⟩
theorem pe_lzip {X : Cx} {e e2 : Expr} {ta : TA} {p p2 pos pos2 : Pos} (hc : X.calm = true) (hgl : Gl X "list") (hml : X.mg "list" = none) (hg : Gl X "zip") (hm : X.mg "zip" = none) (ha : PA X [e, e2] ta)
    (hs : starEach [e, e2] X.env = (false, eval e X.env) :: starEach [e2] X.env) (hpl : (backTo pos2 (starEach [e2] X.env)).any (·.1) = false) :
    PE X (.Call (.Name "list" p) [.Call (.Name "zip" p2) [e, e2] [] pos2] [] pos) (tLZ X.K ta) := by
  refine ⟨fun pins s σ H Q I h => ?_⟩
  refine Call_ (ld_blt I hgl hml PyProof.Rows.boot_list (PyProof.Rows.callWith_type1 (args_cons (Call_ (ld_blt I hg hm PyProof.Rows.boot_zip (PyProof.Rows.callWith_type1 (thn (ha.run pos2 pins s σ H _ I h) fun us s1 ⟨vs, H1, I1, r1, q1⟩ => ?_) hs hpl))) rfl) rfl))
  obtain ⟨a, b, xs, ys, ex, q1, hz, q⟩ := q1
  subst ex
  cases r1 with
  | cons r rr =>
    cases rr with
    | cons r' rr =>
      cases rr
      cases r
      cases r'
      have fin : ∀ (tp : Bool) (its its2 : List Value) (h' : Heap), Vals xs its → Vals ys its2 → SqAt tp s1.heap a its.toArray → SqAt tp s1.heap b its2.toArray → a < s1.heap.objs.size → b < s1.heap.objs.size →
          IsZip h' (s1.heap.objs.size + 4) (s1.heap.objs.size + 2) (s1.heap.objs.size + 3) .none → IsPair h' (s1.heap.objs.size + 2) (.ref s1.heap.objs.size) (.ref (s1.heap.objs.size + 1)) →
          IsPair h' (s1.heap.objs.size + 3) .none .none → ItAt tp h' s1.heap.objs.size a 0 → ItAt tp h' (s1.heap.objs.size + 1) b 0 → h'.objs.size = s1.heap.objs.size + 5 → (∀ c o, s1.heap.get? c = some o → h'.get? c = some o) →
          wpAny (model X.prog X.w) X.A (spliced (backTo pos (starEach [] X.env))) (fun vs s₂ => wpAny (model X.prog X.w) X.A (call (.type "list") (.ref (s1.heap.objs.size + 4) :: vs)) (EP X pins σ Q) X.xe s₂) X.xe { s1 with heap := h' } := by
        intro tp its its2 h' v1 v2 sa sb la lb hz0 hTI hTO h1 h2 hsz hk
        refine args_nil ?_
        have l1 := v1.length
        have l2 := v2.length
        have la' : its.toArray.size = xs.length := by rw [List.size_toArray]; omega
        have lb' : its2.toArray.size = ys.length := by rw [List.size_toArray]; omega
        have D := PySem.W.ktu_apart s1.heap.objs.size a b la lb
        have off : SOff (s1.heap.objs.size + 4) (s1.heap.objs.size + 2) (s1.heap.objs.size + 3) s1.heap.objs.size (s1.heap.objs.size + 1) a b h'.objs.size := by
          rw [hsz]
          have la0 : a < s1.heap.objs.size := la
          have lb0 : b < s1.heap.objs.size := lb
          generalize s1.heap.objs.size = n at la0 lb0 ⊢
          exact ⟨by simp, by simp, by simp, by simp, by simp, Nat.lt_of_lt_of_le la0 (by simp), Nat.lt_of_lt_of_le lb0 (by simp)⟩
        refine zl_call (s := { s1 with heap := h' }) (I1.ok.hd hc) D off (by rw [la', lb']; exact hz) ⟨hTI, h1, h2, sa.at fun o e => hk a o e, sb.at fun o e => hk b o e, .inl ⟨hz0, _, _, hTO⟩⟩ hz0 fun h'' tk acc c as kp hS hl hG hacc => ?_
        rw [la', lb'] at hl
        have kp' : ∀ b o, s1.heap.get? b = some o → h''.get? b = some o := fun b o e => by
          have hb := Heap.lt_size e
          have nn : ∀ m, b ≠ s1.heap.objs.size + m := fun m z => by rw [z] at hb; exact absurd hb (Nat.not_lt.mpr (Nat.le_add_right _ _))
          exact kp b o (nn 4) (nn 3) (nn 0) (nn 1) (hk b o e)
        obtain ⟨n1, n2, n3, n4, J⟩ := zip_laid (tk := tk) (ps := xs.zip ys) I1 kp' (show s1.heap.objs.size ≤ h'.objs.size by omega) hS hG hacc (by rw [hl, List.length_zip]) (zip_rel v1 v2) (by rw [hl]; exact hz)
        exact ⟨.ref _, _, J, rfl, q _ as n1 n2 n3 n4 hl⟩
      rcases q1 with ⟨hqx, hqy⟩ | ⟨hqx, hqy⟩
      · obtain ⟨its, rv, p1, _⟩ := I1.list hqx
        obtain ⟨its2, rv2, p2, _⟩ := I1.list hqy
        exact call_zip_2 p1.isList p2.isList fun h' hz hTI hTO h1 h2 hsz hk => fin false its its2 h' rv rv2 p1.isList p2.isList p1.lt p2.lt hz hTI hTO h1 h2 hsz hk
      · obtain ⟨its, rv, p1, _⟩ := I1.tuple hqx
        obtain ⟨its2, rv2, p2, _⟩ := I1.tuple hqy
        obtain ⟨o1, ho1, _⟩ := id p1
        obtain ⟨o2, ho2, _⟩ := id p2
        exact RZ.call_zipT (show s1.heap.IsTuple a its.toArray from p1) (show s1.heap.IsTuple b its2.toArray from p2) fun h' hz hTI hTO h1 h2 hsz hk => fin true its its2 h' rv rv2 p1 p2 (Heap.lt_size ho1) (Heap.lt_size ho2) hz hTI hTO h1 h2 hsz hk
end Mi

set_option Elab.async false
set_option linter.all false
set_option maxRecDepth 100000
set_option maxHeartbeats 4000000
/-! MZ3: list(zip(a, b)) in the reckoning. -/
namespace Mi
open PySem PySem.Spec PyProof.Rows L2 PySem.W PySem.SeqAt
section
variable {C : Cn} {S : List Ob}
theorem sim_putP : ∀ {as : List Addr} {vs us : List V} {xs ys : List D} {τ : List (V × GV)} {H : Hp}, vs.length = xs.length → us.length = ys.length → Sim C S (vs.zip (xs.map GV.d) ++ (us.zip (ys.map GV.d) ++ τ)) H → (∀ a ∈ as, H a = none) → as.Nodup → as.length = min vs.length us.length →
    Sim C S ((as.map V.ref).zip ((pairs xs ys).map GV.d) ++ τ) (putP H as (vs.zip us))
  | [], vs, us, xs, ys, τ, H, l1, l2, h, hn, nd, hl => h.right.right
  | a :: as, [], us, xs, ys, τ, H, l1, l2, h, hn, nd, hl => by simp at hl
  | a :: as, _ :: _, [], xs, ys, τ, H, l1, l2, h, hn, nd, hl => by simp at hl
  | a :: as, v :: vs, u :: us, [], ys, τ, H, l1, l2, h, hn, nd, hl => by simp at l1
  | a :: as, v :: vs, u :: us, _ :: _, [], τ, H, l1, l2, h, hn, nd, hl => by simp at l2
  | a :: as, v :: vs, u :: us, x :: xs, y :: ys, τ, H, l1, l2, h, hn, nd, hl => by
    obtain ⟨F, m, ok⟩ := h
    have r1 : Rp C F m v x := ok.get (List.mem_append_left _ (List.mem_cons_self ..))
    have r2 : Rp C F m u y := ok.get (List.mem_append_right _ (List.mem_append_left _ (List.mem_cons_self ..)))
    have z := pair_new ok r1 r2 (hn a (List.mem_cons_self ..))
    have z2 : Sim C S (vs.zip (xs.map GV.d) ++ (us.zip (ys.map GV.d) ++ ((V.ref a, GV.d (.tuple [x, y])) :: τ))) (upd H a (.tup [v, u])) := z.re (fun q hq => by
      simp only [List.zip_cons_cons, List.map_cons, List.mem_append, List.mem_cons] at hq ⊢
      rcases hq with h | h | h | h
      · exact .inr (.inl (.inr h))
      · exact .inr (.inr (.inl (.inr h)))
      · exact .inl h
      · exact .inr (.inr (.inr h))) fun b => by
      simp only [own_app, own_d, own_zip, List.zip_cons_cons, List.map_cons, List.nil_append, List.cons_append]
      exact Nat.le_refl _
    have ih := sim_putP (as := as) (H := upd H a (.tup [v, u])) (by simpa using l1) (by simpa using l2) z2 (fun b hb => by
      rw [upd_ne (fun e => (List.nodup_cons.mp nd).1 (by rw [← e]; exact hb))]
      exact hn b (List.mem_cons_of_mem _ hb)) (List.nodup_cons.mp nd).2 (by simp only [List.length_cons] at hl; omega)
    exact ih.perm (List.perm_middle).symm
end
section
variable {X : Cx} {C : Cn}
def cLZip (as : M (List D)) : M GV := fun t => (as t).bind fun xs t1 => match xs with
  | [x, y] => (match zipOf x y with
    | some zs => if zs.length ≤ lim then .ok (.fl zs) t1 else .bad
    | none => .bad)
  | _ => .bad
theorem Sim.end_fl {S : List Ob} {τ : List (V × GV)} {H : Hp} {vs us : List V} {xs ys : List D} {D0 : Addr} {as : List Addr} (h : Sim C S (vs.zip (xs.map GV.d) ++ (us.zip (ys.map GV.d) ++ τ)) H) (l1 : vs.length = xs.length) (l2 : us.length = ys.length)
    (n1 : H D0 = none) (n2 : ∀ c ∈ as, H c = none) (n3 : D0 ∉ as) (n4 : as.Nodup) (n5 : as.length = min vs.length us.length) : Sim C S ((V.ref D0, GV.fl (pairs xs ys)) :: τ) (upd (putP H as (vs.zip us)) D0 (.lst (as.map V.ref))) := by
  refine Sim.newLst (sim_putP l1 l2 h n2 n4 n5) ?_ (by rw [putP_off as _ _ n3]; exact n1)
  rw [List.length_map, n5, pairs_len, l1, l2]
theorem snd_lzip {as : M (List D)} {e e2 : Expr} {p p2 pos pos2 : Pos} (hK : C.K = X.K) (hc : X.calm = true) (hgl : Gl X "list") (hml : X.mg "list" = none) (hg : Gl X "zip") (hm : X.mg "zip" = none) (hst : isStar e = false) (hst2 : isStar e2 = false) (ha : SndA X C as [e, e2]) :
    Snd X C (cLZip as) (.Call (.Name "list" p) [.Call (.Name "zip" p2) [e, e2] [] pos2] [] pos) := fun σ ρ S τρ τ H Q sl hs q => by
  refine ue_of (pe_lzip hc hgl hml hg hm pa_u (starEach_no hst) (backTo_no (by simp [hst2]))) ?_
  refine ha σ ρ S τρ τ H _ sl hs (R.post_imp (R.post_bind.mp q) fun xs t k vs H1 τρ1 sl1 hl hs1 => ?_)
  split at k
  · rename_i x y
    split at k
    · rename_i zs ez
      split at k
      · rename_i hlim
        obtain ⟨v, u, rfl⟩ : ∃ v u, vs = [v, u] := by
          match vs, hl with
          | [v, u], _ => exact ⟨v, u, rfl⟩
        have hs2 : Sim C t.S ((v, GV.d x) :: (u, GV.d y) :: (τρ1 ++ τ)) H1 := hs1
        rw [← hK]
        unfold zipOf at ez
        split at ez
        · cases ez
          rename_i xs ys
          obtain ⟨a, vs, e1, h1, m1, hs3⟩ := hs2.lst_inv
          obtain ⟨b, us, e2, h2, m2, hs4⟩ := (hs2.tail).lst_inv
          rw [pairs_len] at hlim
          refine ⟨a, b, vs, us, by rw [e1, e2], .inl ⟨.inl (.inl h1), .inl (.inl h2)⟩, lim_line (by rw [m1, m2]; exact hlim), fun D0 as n1 n2 n3 n4 n5 => ?_⟩
          obtain ⟨F, m, ok⟩ := hs2
          have r1 := Rb.lst (.inl (ok.get (List.mem_cons_self ..))) ok.sub
          have r2 := Rb.lst (.inl (ok.get (List.mem_cons_of_mem _ (List.mem_cons_self ..)))) ok.sub
          obtain ⟨a', vs', e1', h1', r1⟩ := r1
          obtain ⟨b', us', e2', h2', r2⟩ := r2
          rw [e1] at e1'; cases e1'
          rw [e2] at e2'; cases e2'
          rw [h1] at h1'; cases h1'
          rw [h2] at h2'; cases h2'
          have hs5 : Sim C t.S (vs.zip (xs.map GV.d) ++ (us.zip (ys.map GV.d) ++ (τρ1 ++ τ))) H1 := ((ok.adds r2).adds r1).sim.re (fun q hq => by
            simp only [List.mem_append, List.mem_cons] at hq ⊢
            rcases hq with h | h | h
            · exact .inl h
            · exact .inr (.inl h)
            · exact .inr (.inr (.inr (.inr h)))) fun b => by
            simp only [own_app, own_d, own_zip, List.nil_append]; exact Nat.le_refl _
          exact k _ _ τρ1 sl1 (Sim.end_fl hs5 m1 m2 n1 n2 n3 n4 n5)
        · cases ez
          rename_i xs ys
          obtain ⟨a, vs, e1, h1, m1, hs3⟩ := hs2.tup_inv
          have hs3' : Sim C t.S ((u, GV.d (.tuple ys)) :: (vs.zip (xs.map GV.d) ++ ((v, GV.d (.tuple xs)) :: (τρ1 ++ τ)))) H1 := hs3.re (fun q hq => by
            simp only [List.mem_append, List.mem_cons] at hq ⊢
            rcases hq with h | h | h | h
            · exact .inr (.inr (.inl h))
            · exact .inl h
            · exact .inr (.inl h)
            · exact .inr (.inr (.inr h))) fun b => by
            simp only [own_app, own_d, own_zip, List.nil_append]; exact Nat.le_refl _
          obtain ⟨b, us, e2, h2, m2, hs4⟩ := hs3'.tup_inv
          rw [pairs_len] at hlim
          refine ⟨a, b, vs, us, by rw [e1, e2], .inr ⟨h1, h2⟩, lim_line (by rw [m1, m2]; exact hlim), fun D0 as n1 n2 n3 n4 n5 => ?_⟩
          have hs5 : Sim C t.S (vs.zip (xs.map GV.d) ++ (us.zip (ys.map GV.d) ++ (τρ1 ++ τ))) H1 := by
            refine hs4.re (fun q hq => ?_) fun b => ?_
            · simp only [List.mem_append, List.mem_cons] at hq ⊢
              rcases hq with h | h | h
              · exact .inr (.inr (.inl h))
              · exact .inl h
              · exact .inr (.inr (.inr (.inr h)))
            · simp only [own_app, own_d, own_zip, List.nil_append]; exact Nat.le_refl _
          exact k _ _ τρ1 sl1 (Sim.end_fl hs5 m1 m2 n1 n2 n3 n4 n5)
        · cases ez
      · exact k.elim
    · exact k.elim
  · exact k.elim
end
end Mi

set_option Elab.async false
set_option linter.all false
set_option maxRecDepth 100000
set_option maxHeartbeats 4000000
/-! MY: dicts: new, put, read, sorted. -/
namespace Mi
open PySem PySem.Spec PyProof.Rows L2 PySem.W PySem.SeqAt

/-! ### assoc lists -/
section
variable {κ : Type} [DecidableEq κ] {β : Type}
def putG (kvs : List (κ × β)) (k : κ) (v : β) : List (κ × β) :=
  if (kvs.any fun kv => decide (kv.1 = k)) = true then kvs.map (fun kv => if kv.1 = k then (kv.1, v) else kv) else kvs ++ [(k, v)]
def valG (kvs : List (κ × β)) (k : κ) : Option β := (kvs.find? fun kv => decide (kv.1 = k)).map (·.2)
def dropG (kvs : List (κ × β)) (k : κ) : List (κ × β) := kvs.filter fun kv => decide (kv.1 ≠ k)
end
/-- rows key by key -/
inductive KvR {κ : Type} (C : Cn) (F : Hp) (m : List Addr) : List (κ × V) → List (κ × D) → Prop
  | nil : KvR C F m [] []
  | cons {k : κ} {v : V} {x : D} {l : List (κ × V)} {r : List (κ × D)} : Rp C F m v x → KvR C F m l r → KvR C F m ((k, v) :: l) ((k, x) :: r)
section
variable {κ : Type} [DecidableEq κ] {C : Cn} {F : Hp} {m : List Addr}
theorem KvR.zip : ∀ {ks : List κ} {vs : List V} {xs : List D}, RpL C F m vs xs → KvR C F m (ks.zip vs) (ks.zip xs)
  | [], _, _, _ => .nil
  | _ :: _, _, _, .nil => .nil
  | k :: ks, _, _, .cons r t => .cons r (KvR.zip t)
theorem KvR.keys : ∀ {l : List (κ × V)} {r : List (κ × D)}, KvR C F m l r → l.map (·.1) = r.map (·.1)
  | _, _, .nil => rfl
  | _, _, .cons (k := k) _ t => congrArg (k :: ·) t.keys
theorem KvR.vals : ∀ {l : List (κ × V)} {r : List (κ × D)}, KvR C F m l r → RpL C F m (l.map (·.2)) (r.map (·.2))
  | _, _, .nil => .nil
  | _, _, .cons h t => .cons h t.vals
theorem KvR.len : ∀ {l : List (κ × V)} {r : List (κ × D)}, KvR C F m l r → l.length = r.length
  | _, _, .nil => rfl
  | _, _, .cons _ t => congrArg Nat.succ t.len
theorem KvR.any (k : κ) : ∀ {l : List (κ × V)} {r : List (κ × D)}, KvR C F m l r → (l.any fun kv => decide (kv.1 = k)) = (r.any fun kv => decide (kv.1 = k))
  | _, _, .nil => rfl
  | _, _, .cons _ t => by rw [List.any_cons, List.any_cons, t.any k]
theorem KvR.mapPut (k : κ) {v : V} {x : D} (h : Rp C F m v x) : ∀ {l : List (κ × V)} {r : List (κ × D)}, KvR C F m l r → KvR C F m (l.map fun kv => if kv.1 = k then (kv.1, v) else kv) (r.map fun kv => if kv.1 = k then (kv.1, x) else kv)
  | _, _, .nil => .nil
  | _, _, .cons (k := k') a t => by
    simp only [List.map_cons]
    by_cases e : k' = k
    · simp only [e, if_true]; exact .cons h (KvR.mapPut k h t)
    · simp only [e, if_false]; exact .cons a (KvR.mapPut k h t)
theorem KvR.app {k : κ} {v : V} {x : D} (h : Rp C F m v x) : ∀ {l : List (κ × V)} {r : List (κ × D)}, KvR C F m l r → KvR C F m (l ++ [(k, v)]) (r ++ [(k, x)])
  | _, _, .nil => .cons h .nil
  | _, _, .cons a t => .cons a (KvR.app h t)
theorem KvR.put (k : κ) {v : V} {x : D} (h : Rp C F m v x) {l : List (κ × V)} {r : List (κ × D)} (q : KvR C F m l r) : KvR C F m (putK l k v) (putG r k x) := by
  unfold putK putG
  rw [q.any k]
  split
  · exact q.mapPut k h
  · exact q.app h
theorem KvR.get (k : κ) : ∀ {l : List (κ × V)} {r : List (κ × D)} {x : D}, KvR C F m l r → valG r k = some x → ∃ v, valV l k = some v ∧ Rp C F m v x
  | _, _, _, .nil, e => by cases e
  | _, _, _, .cons (k := k') a t, e => by
    unfold valG at e
    unfold valV
    rw [List.find?_cons] at e ⊢
    by_cases z : k' = k
    · simp only [z, decide_true] at e ⊢
      cases e
      exact ⟨_, rfl, a⟩
    · simp only [z, decide_false] at e ⊢
      exact KvR.get k t e
theorem KvR.miss (k : κ) : ∀ {l : List (κ × V)} {r : List (κ × D)}, KvR C F m l r → valG r k = none → valV l k = none
  | _, _, .nil, e => rfl
  | _, _, .cons (k := k') a t, e => by
    unfold valG at e
    unfold valV
    rw [List.find?_cons] at e ⊢
    by_cases z : k' = k
    · simp only [z, decide_true] at e
      cases e
    · simp only [z, decide_false] at e ⊢
      exact KvR.miss k t e
end
theorem zip_pr {α β : Type} (l : List (α × β)) : (l.map (·.1)).zip (l.map (·.2)) = l := by
  induction l with
  | nil => rfl
  | cons p l ih => simp only [List.map_cons, List.zip_cons_cons, ih]

/-! ### the container of a slot -/
def obAt (t : T) (i : Nat) : Option (Sh × List D) := match t.ρ[i]? with
  | some (some (.ob s xs)) => some (s, xs)
  | some (some (.d x)) => (refOf x).bind fun n => match t.S[n]? with
    | some (.ob s xs) => some (s, xs)
    | _ => none
  | _ => none
def putOb (t : T) (i : Nat) (s : Sh) (xs : List D) : T := match t.ρ[i]? with
  | some (some (.ob _ _)) => ⟨t.ρ.set i (some (.ob s xs)), t.S⟩
  | some (some (.d x)) => (match refOf x with
    | some n => ⟨t.ρ, t.S.set n (.ob s xs)⟩
    | none => t)
  | _ => t
section
variable {X : Cx} {C : Cn}
theorem ob_at {σ : L2.St} {t : T} {τρ τ : List (V × GV)} {H : Hp} {i : Nat} {s : Sh} {xs : List D} (sl : Slots σ t.ρ τρ) (hs : Sim C t.S (τρ ++ τ) H) (h : obAt t i = some (s, xs)) :
    ∃ a vs, σ[i]? = some (some (.ref a)) ∧ H a = some (hob s vs) ∧ vs.length = xs.length ∧ ∃ F m, Ok C F m t.S (τρ ++ τ) H ∧ RpL C F m vs xs := by
  obtain ⟨F, m, ok⟩ := hs
  unfold obAt at h
  split at h
  · rename_i s' ys e
    cases h
    obtain ⟨v, h1, h2⟩ := sl.get e
    obtain ⟨a, vs, rfl, h3, h4, h5⟩ := ok.held _ (List.mem_append_left _ h2)
    exact ⟨a, vs, h1, h3, h5.len, F, m, ok, h5⟩
  · rename_i x e
    obtain ⟨n, hn, h'⟩ := Option.bind_eq_some_iff.mp h
    clear h
    cases refOf_eq hn
    split at h'
    · rename_i s' ys q
      cases h'
      obtain ⟨v, h1, h2⟩ := sl.get e
      have r := ok.held _ (List.mem_append_left _ h2)
      cases r with
      | ref sm =>
        obtain ⟨vs, h3, h4, h5⟩ := ok.st n _ _ q sm
        exact ⟨_, vs, h1, h3, h5.len, F, m, ok, h5⟩
    · cases h'
  · cases h
theorem put_ob {σ : L2.St} {t : T} {τρ τ : List (V × GV)} {H : Hp} {i : Nat} {s s' : Sh} {xs xs' : List D} {vs' : List V} {a : Addr} (sl : Slots σ t.ρ τρ) (ha : σ[i]? = some (some (.ref a))) (h : obAt t i = some (s, xs)) (hl : vs'.length = xs'.length)
    (hs : Sim C t.S (τρ ++ (vs'.zip (xs'.map GV.d) ++ τ)) H) : ∃ τρ', Slots σ (putOb t i s' xs').ρ τρ' ∧ Sim C (putOb t i s' xs').S (τρ' ++ τ) (upd H a (hob s' vs')) := by
  unfold obAt at h
  unfold putOb
  split at h
  · rename_i s2 ys e
    cases h
    simp only [e]
    obtain ⟨v, τ0, h1, h2, h3, h4⟩ := sl.out e
    rw [ha] at h1; cases h1
    obtain ⟨τ', q1, q2⟩ := h4 (.ref a) (.ob s' xs')
    have hσ : σ.set i (some (.ref a)) = σ := by
      obtain ⟨hi, ei⟩ := List.getElem?_eq_some_iff.mp ha
      rw [← ei]; exact List.set_getElem_self hi
    rw [hσ] at q2
    refine ⟨τ', q2, ?_⟩
    have z : Sim C t.S ((V.ref a, GV.ob s xs) :: (vs'.zip (xs'.map GV.d) ++ (τ0 ++ τ))) H := hs.perm (by
      refine List.Perm.trans ?_ (h2.symm.append_right _)
      show ((V.ref a, GV.ob s xs) :: (vs'.zip (xs'.map GV.d) ++ (τ0 ++ τ))).Perm ((V.ref a, GV.ob s xs) :: (τ0 ++ (vs'.zip (xs'.map GV.d) ++ τ)))
      refine List.Perm.cons _ ?_
      rw [← List.append_assoc, ← List.append_assoc]
      exact List.perm_append_comm.append_right τ)
    exact (z.setOwnOb (s' := s') hl).perm (q1.append_right τ)
  · rename_i x e
    obtain ⟨n, hn, h'⟩ := Option.bind_eq_some_iff.mp h
    clear h
    cases refOf_eq hn
    split at h'
    · rename_i s2 ys q
      cases h'
      simp only [e, hn]
      obtain ⟨v, h1, h2⟩ := sl.get e
      rw [ha] at h1; cases h1
      refine ⟨τρ, sl, ?_⟩
      refine Sim.setStOb (s' := s') (a := a) (xs := xs) ?_ q hl
      have z := hs.dup (List.mem_append_left _ h2)
      refine z.perm (List.Perm.cons _ ?_)
      rw [← List.append_assoc, ← List.append_assoc]
      exact List.perm_append_comm.append_right τ
    · cases h'
  · cases h
end
end Mi

set_option Elab.async false
set_option linter.all false
set_option maxRecDepth 100000
set_option maxHeartbeats 4000000
/-! MY2: dict statements and reads. -/
namespace Mi
open PySem PySem.Spec PyProof.Rows L2 PySem.W PySem.SeqAt
def keyOf : D → Option L2.Key
  | .int i => some (.inl i)
  | .str x => some (.inr x)
  | _ => none
def keysOf : List D → Option (List L2.Key)
  | [] => some []
  | x :: xs => (keyOf x).bind fun k => (keysOf xs).map (k :: ·)
section
variable {C : Cn} {F : Hp} {m : List Addr} {H : Hp}
theorem keyOf_rel {v : V} {x : D} {k : L2.Key} (r : Rp C F m v x) (e : keyOf x = some k) : v = kV k := by
  unfold keyOf at e
  split at e
  · cases e; cases r; rfl
  · cases e; cases r; rfl
  · cases e
theorem keysOf_rel : ∀ {vs : List V} {xs : List D} {ks : List L2.Key}, RpL C F m vs xs → keysOf xs = some ks → vs = ks.map kV
  | _, _, _, .nil, e => by unfold keysOf at e; cases e; rfl
  | _, _, _, .cons r t, e => by
    unfold keysOf at e
    obtain ⟨k, h1, h2⟩ := Option.bind_eq_some_iff.mp e
    obtain ⟨l, h3, h4⟩ := Option.map_eq_some_iff.mp h2
    subst h4
    rw [keyOf_rel r h1, keysOf_rel t h3]; rfl
end
def putD (kc : List D → Bool) (t : T) (i : Nat) (y x : D) : Option T := match obAt t i with
  | some (.k ks, xs) => (keyOf y).bind fun k => if (ks.zip xs).length < lim then some (putOb t i (.k ((putG (ks.zip xs) k x).map (·.1))) ((putG (ks.zip xs) k x).map (·.2))) else none
  | some (.t ks, xs) => (match y with
    | .tuple ys => if kc ys then none else (keysOf ys).bind fun k => if (ks.zip xs).length < lim then some (putOb t i (.t ((putG (ks.zip xs) k x).map (·.1))) ((putG (ks.zip xs) k x).map (·.2))) else none
    | _ => none)
  | _ => none
def sDPutM (kc : List D → Bool) (i : Nat) (cv ck : M GV) : St' := fun t => (vl cv t).fl fun x t1 => if (obAt t1 i).isSome then (vl ck t1).fl fun y t2 => (match putD kc t2 i y x with
  | some t3 => .nx t3
  | none => .bad) else .bad
section
variable {X : Cx} {C : Cn}
theorem put_d {σ : L2.St} {t t3 : T} {τρ τ : List (V × GV)} {H : Hp} {i : Nat} {u v : V} {x y : D} {a : Addr} (sl : Slots σ t.ρ τρ) (ha : σ[i]? = some (some (.ref a))) (hs : Sim C t.S (τρ ++ ((u, .d y) :: (v, .d x) :: τ)) H) (h : putD C.kc t i y x = some t3) :
    ∃ H', DPut H a u v H' ∧ ∃ τρ', Slots σ t3.ρ τρ' ∧ Sim C t3.S (τρ' ++ τ) H' := by
  unfold putD at h
  have fin : ∀ {F m} {vs' : List V} {xs' : List D}, Ok C F m t.S (τρ ++ ((u, .d y) :: (v, .d x) :: τ)) H → RpL C F m vs' xs' → Sim C t.S (τρ ++ (vs'.zip (xs'.map GV.d) ++ τ)) H := fun {F m vs' xs'} ok r => (ok.adds r).sim.re (fun q hq => by
    simp only [List.mem_append, List.mem_cons] at hq ⊢
    rcases hq with h | h | h
    · exact .inr (.inl h)
    · exact .inl h
    · exact .inr (.inr (.inr (.inr h)))) fun b => by simp only [own_app, own_d, own_zip, List.nil_append]; exact Nat.le_refl _
  split at h
  · rename_i ks xs eo
    obtain ⟨k, h1, h2⟩ := Option.bind_eq_some_iff.mp h
    split at h2
    · rename_i hl
      cases h2
      obtain ⟨a', vs, e1, e2, e3, F, m, ok, r⟩ := ob_at sl hs eo
      rw [ha] at e1; cases e1
      have ru : Rp C F m u y := ok.get (List.mem_append_right _ (List.mem_cons_self ..))
      have rv : Rp C F m v x := ok.get (List.mem_append_right _ (List.mem_cons_of_mem _ (List.mem_cons_self ..)))
      have kr := KvR.zip (ks := ks) r
      have kp := kr.put k rv
      rw [keyOf_rel ru h1]
      obtain ⟨τ', q1, q2⟩ := put_ob (s' := .k ((putG (ks.zip xs) k x).map (·.1))) sl ha eo kp.vals.len (fin ok kp.vals)
      refine ⟨_, DPut.k e2 (by rw [kr.len]; exact lim_lt hl), τ', q1, ?_⟩
      have ez : hob (.k ((putG (ks.zip xs) k x).map (·.1))) ((putK (ks.zip vs) k v).map (·.2)) = .dK (putK (ks.zip vs) k v) := by
        show HO.dK _ = _
        rw [← kp.keys, zip_pr]
      rw [ez] at q2
      exact q2
    · cases h2
  · rename_i ks xs eo
    split at h
    · rename_i ys
      split at h
      · cases h
      · rename_i hk
        obtain ⟨k, h1, h2⟩ := Option.bind_eq_some_iff.mp h
        split at h2
        · rename_i hl
          cases h2
          obtain ⟨a', vs, e1, e2, e3, F, m, ok, r⟩ := ob_at sl hs eo
          rw [ha] at e1; cases e1
          have ru : Rp C F m u (.tuple ys) := ok.get (List.mem_append_right _ (List.mem_cons_self ..))
          have rv : Rp C F m v x := ok.get (List.mem_append_right _ (List.mem_cons_of_mem _ (List.mem_cons_self ..)))
          obtain ⟨b, us, f1, f2, f3⟩ := Rb.tupT (.inl ru) ok.sub (by simpa using hk)
          subst f1
          have kr := KvR.zip (ks := ks) r
          have kp := kr.put k rv
          obtain ⟨τ', q1, q2⟩ := put_ob (s' := .t ((putG (ks.zip xs) k x).map (·.1))) sl ha eo kp.vals.len (fin ok kp.vals)
          refine ⟨_, DPut.t e2 (by rw [f2, keysOf_rel f3 h1]) (by rw [kr.len]; exact lim_lt hl), τ', q1, ?_⟩
          have ez : hob (.t ((putG (ks.zip xs) k x).map (·.1))) ((putK (ks.zip vs) k v).map (·.2)) = .dT (putK (ks.zip vs) k v) := by
            show HO.dT _ = _
            rw [← kp.keys, zip_pr]
          rw [ez] at q2
          exact q2
        · cases h2
    · cases h
  · cases h
theorem snds_dput {i : Nat} {cv ck : M GV} {o ei e : Expr} {pos pos' : Pos} (hu : X.A.units + 1 < cLine) (ho : PE X o (tVar i)) (hcm : isComp e = false) (hk : Snd X C ck ei) (hv : Snd X C cv e) : SndS X C (sDPutM C.kc i cv ck) (.Assign [.Subscript o ei pos'] e pos) := fun σ ρ S τρ τ H D sl hs q =>
  us_of (ps_dput hu ho pe_u pe_u (swapsWith_no hcm)) (by
    show UE X e σ H _
    refine hv.vl sl hs (R.post_imp (R.post_fl q) fun x t1 k1 v H1 τρ1 sl1 hs1 => ?_)
    split at k1
    · rename_i hsome
      obtain ⟨⟨so, xs⟩, eo⟩ := Option.isSome_iff_exists.mp hsome
      obtain ⟨a, vs, h1, _⟩ := ob_at sl1 hs1.tail eo
      refine ⟨.ref a, h1, ?_⟩
      refine hk.vl sl1 hs1.back (R.post_imp (R.post_fl k1) fun y t2 k2 u H2 τρ2 sl2 hs2 => ?_)
      split at k2
      · rename_i t3 et
        have hs3 : Sim C t2.S (τρ2 ++ ((u, GV.d y) :: (v, GV.d x) :: τ)) H2 := hs2.back
        obtain ⟨H', g, τ', q1, q2⟩ := put_d sl2 h1 hs3 et
        exact ⟨a, H', rfl, g, k2 σ H' τ' q1 q2⟩
      · exact k2.elim
    · exact k1.elim)
/-- {} -/
def cNewK : M GV := fun t => .ok (.ob (.k []) []) t
def cNewT : M GV := fun t => .ok (.ob (.t []) []) t
theorem snd_newK {pos : Pos} : Snd X C cNewK (.Dict [] [] pos) := fun σ ρ S τρ τ H Q sl hs q =>
  ue_of pe_dnewK fun p hp => q (.ref p) _ τρ sl (Sim.newOb (s := .k []) (vs := []) (xs := []) hs rfl hp)
theorem snd_newT {pos : Pos} : Snd X C cNewT (.Dict [] [] pos) := fun σ ρ S τρ τ H Q sl hs q =>
  ue_of pe_dnewT fun p hp => q (.ref p) _ τρ sl (Sim.newOb (s := .t []) (vs := []) (xs := []) hs rfl hp)
end
end Mi

set_option Elab.async false
set_option linter.all false
set_option maxRecDepth 100000
set_option maxHeartbeats 4000000
/-! MY3: sorted(d) of a dict with tuple keys. -/
namespace Mi
open PySem PySem.Spec PyProof.Rows L2 PySem.W PySem.SeqAt
theorem readsAll_keys {h : Heap} : ∀ {k : List L2.Key} {us : List Value}, Vals (k.map kV) us → ReadsAll h us (k.map keyD) []
  | [], _, .nil => .nil
  | .inl i :: k, _, .cons r t => by
    obtain ⟨tk, rfl⟩ := r
    exact .cons (as := []) (.int i tk) (readsAll_keys t)
  | .inr x :: k, _, .cons r t => by
    obtain ⟨tk, rfl⟩ := r
    exact .cons (as := []) (.str x tk) (readsAll_keys t)
/-- the key tuple b reads as its data -/
def KRel (H : Hp) (v : V) (d : D) : Prop := ∃ (b : Addr) (k : List L2.Key), v = .ref b ∧ d = .tuple (k.map keyD) ∧ H b = some (.tup (k.map kV))
def rSortDT : List V → Hp → VK → Prop := fun us H Q => ∃ (a : Addr) (kvs : List (List L2.Key × V)), us = [V.ref a] ∧ H a = some (.dT kvs) ∧ alikeB (kvs.map fun q => .tuple (q.1.map keyD)) = true ∧ sortableB (kvs.map fun q => .tuple (q.1.map keyD)) = true ∧ (∀ q ∈ kvs, (PyData.tuple (q.1.map keyD)).depth ≤ 150) ∧
  ∀ (p : Addr) (ws : List V), H p = none → EachIs (KRel H) ws (sortD (kvs.map fun q => .tuple (q.1.map keyD))) → Q (.ref p) (upd H p (.lst ws))
theorem each_of_kt {H : Hp} : ∀ {kvs : List (List L2.Key × V)} {xs : List (List L2.Key × Addr × Value)}, KT H kvs xs → EachIs (fun (u : Value) (d : D) => ∃ v, RelV v u ∧ KRel H v d) (xs.map fun x => Value.ref x.2.1) (kvs.map fun q => .tuple (q.1.map keyD))
  | _, _, .nil => .nil
  | _, _, .cons h t => .cons ⟨.ref _, rfl, _, _, rfl, rfl, h.2.1⟩ (each_of_kt t)
theorem cr_sortedDT {X : Cx} (hc : X.calm = true) (hu : X.A.units + 200 < cLine) : CallR X (.builtin "sorted") rSortDT := by
  intro pins s σ H xs us Q I r h
  obtain ⟨d, kvs, rfl, hd, al, so, dp, q⟩ := h
  obtain ⟨u, rfl, rx⟩ := r.one
  cases rx
  obtain ⟨z, hs, ks, pr, o, es, ep, ho, hx, hdt, he, hn⟩ := (show ObjOk X.prog X.w H s.heap d (.dT kvs) from I.hok d _ hd)
  have l1 : es.size = ks.length := size_of_entries he
  have l2 : kvs.length = ks.length := Paired.length pr
  refine Calls.call_function_entry PyProof.Rows.kind_sorted PyProof.Rows.plain_sorted PyProof.Rows.entry_sorted (PyProof.Rows.args_sorted1 _) ?_
  unfold Builtin.«sorted»
  refine wpAny_bind (m := checkCount "sorted" 1 1 _) (wpAny_pure ?_)
  refine wpAny_bind (PySem.W.kdu_collect (A := X.A.in1) (kdl_raw hs hx hdt) (I.ok.hd hc) ho (by omega) fun h' tk acc' kp it => ?_)
  have ea : acc'.toList = ks.map fun x => Value.ref x.2.1 := by
    have hl : acc'.toList.length = ks.length := by rw [Array.length_toList, it.1]; exact l1
    apply List.ext_getElem?
    intro j
    rw [List.getElem?_map]
    cases hj : acc'.toList[j]? with
    | none =>
      have h1 := List.getElem?_eq_none_iff.mp hj
      rw [List.getElem?_eq_none (by omega)]
      all_goals rfl
    | some v =>
      obtain ⟨en, hen, hv⟩ := it.2 j v (by rw [← Array.getElem?_toList]; exact hj)
      have qe := entry_at he j
      rw [hen] at qe
      cases hb : ks[j]? with
      | none =>
        rw [hb] at qe
        exact nomatch (show some en = none from qe)
      | some b =>
        rw [hb] at qe
        have e2 : en = entryOfKey (tupleKind (mixKind X.prog X.w)) b := Option.some.inj qe
        rw [hv, e2]
        all_goals rfl
  have I1 : Inv X pins σ H { s with heap := h', toks := tk } := I.kept kp
  have hal : acc'.toList.length = kvs.length := by rw [ea, List.length_map, l2]
  refine wpAny_bind (wpAny_newList ?_ (by rw [hal]; exact z))
  have hoL : (h'.push (seqObj "list" acc'.toList.toArray 0)).get? h'.objs.size = some (seqObj "list" acc'.toList.toArray 0) := Heap.get?_push_size _ rfl
  show wpAny _ _ _ _ _ { s with heap := h'.push (seqObj "list" acc'.toList.toArray 0), toks := tk }
  have e1 : EachIs (fun (u : Value) (d : D) => ∃ v, RelV v u ∧ KRel H v d) acc'.toList (kvs.map fun q => .tuple (q.1.map keyD)) := by rw [ea]; exact each_of_kt pr
  have e2 : EachIs (fun u (b : D) => ∃ as, Reads (h'.push (seqObj "list" acc'.toList.toArray 0)) u (id b) as ∧ h'.objs.size ∉ as) acc'.toList (kvs.map fun q => .tuple (q.1.map keyD)) := each_imp e1 fun u x hx ⟨v, ru, b, k, ev, ex, hb⟩ => by
    subst ev; subst ex
    cases ru
    obtain ⟨_, its, rv, ob, hob, hcb, n, hdb⟩ := (show ObjOk X.prog X.w H h' b (.tup (k.map kV)) from I1.hok b _ hb)
    exact ⟨[], .tuple (Heap.get?_push_of_some _ hob) hcb hdb (by rw [List.toList_toArray]; exact readsAll_keys rv), by simp⟩
  refine wpAny_bind (wpAny_holding (list_sort_data (enc := id) (s := { s with heap := h'.push (seqObj "list" acc'.toList.toArray 0), toks := tk }) hoL e1 e2 (alikeB_of al) (sortableB_of so) (by rw [List.length_map]; exact z) (fun b hb => ?_) fun out ol oe => ?_))
  · obtain ⟨qq, hq, eq⟩ := List.mem_map.mp hb
    have : b.depth ≤ 150 := by rw [← eq]; exact dp qq hq
    show X.A.units + 1 + 1 + b.depth < cLine
    omega
  · obtain ⟨c, hcl⟩ := PyProof.Rows.sortedHeap_at (vs := acc'.toList) (out := out.toArray) hoL
    have oe' : EachIs (fun (u : Value) (d : D) => ∃ v, RelV v u ∧ KRel H v d) out (sortD (kvs.map fun q => .tuple (q.1.map keyD))) := by rw [← sortD_eq]; exact oe
    obtain ⟨ws, w1, w2⟩ := vals_each oe'
    have hlen : ws.length ≤ sizeLine := by rw [w1.length, ol, List.length_map]; exact z
    refine wpAny_pure ⟨_, rfl, .ref h'.objs.size, upd H h'.objs.size (.lst ws), I1.laid (t' := tk) (fun b u e => ?_) (Nat.le_refl _) (show ObjOk X.prog X.w _ _ _ (.lst ws) from ⟨hlen, out, c, w1, hcl⟩), rfl, q _ ws (I1.hok.fresh (Nat.le_refl _)) w2⟩
    have hb : b < h'.objs.size := Heap.lt_size e
    rw [PyProof.Rows.sortedHeap_old (Nat.ne_of_lt hb) (by rw [Heap.size_push]; exact Nat.lt_succ_of_lt hb)]
    exact Heap.get?_push_of_some _ e
/-! ### in the reckoning -/
def fSortDT (S : List Ob) : D → Option GV
  | .dict ((.bool false, .none) :: rest) => if alikeB (rest.map (·.1)) && sortableB (rest.map (·.1)) && (rest.map (·.1)).all fun x => decide (x.depth ≤ 150) then some (.fl (sortD (rest.map (·.1)))) else none
  | _ => none
theorem rb_dt {C : Cn} {F m H} {v : V} {rest : List (D × D)} (b : Rb C F m H v (.dict ((.bool false, .none) :: rest))) (e : Sub F H) : ∃ (a : Addr) (kvs : List (List L2.Key × V)), v = .ref a ∧ H a = some (.dT kvs) ∧ rest.map (·.1) = kvs.map fun q => .tuple (q.1.map keyD) := by
  have key : ∀ {ks : List (List L2.Key)} {vs : List V} {xs : List D}, RpL C F m vs xs → (((ks.zip xs).map fun q => ((.tuple (q.1.map keyD), q.2) : D × D)).map (·.1)) = (ks.zip vs).map fun q => .tuple (q.1.map keyD) := by
    intro ks
    induction ks with
    | nil => intro vs xs r; rfl
    | cons k ks ih =>
      intro vs xs r
      cases r with
      | nil => rfl
      | cons h t => simp only [List.zip_cons_cons, List.map_cons, ih t]
  rcases b with r | ⟨a, s, vs, xs, rfl, q, h1, r⟩
  · generalize hd : (PyData.dict ((.bool false, .none) :: rest) : D) = d at r
    cases r with
    | dt h r =>
      cases hd
      exact ⟨_, _, rfl, e _ _ h, key r⟩
    | _ => cases hd
  · cases s with
    | l => cases q
    | k ks =>
      unfold dOb dDk at q
      cases q
    | t ks =>
      unfold dOb dDt at q
      cases q
      exact ⟨a, _, rfl, h1, key r⟩
theorem sim_keys {C : Cn} {S τ H} : ∀ {ws : List V} {ds : List D}, Sim C S τ H → EachIs (KRel H) ws ds → ∃ H0, H0 = H ∧ ws.length = ds.length
  | _, _, _, .nil => ⟨H, rfl, rfl⟩
  | _, _, h, .cons a t => by
    obtain ⟨_, _, e⟩ := sim_keys h t
    exact ⟨H, rfl, congrArg Nat.succ e⟩
end Mi

set_option Elab.async false
set_option linter.all false
set_option maxRecDepth 100000
set_option maxHeartbeats 4000000
/-! MY4: sorted(d) in the reckoning. -/
namespace Mi
open PySem PySem.Spec PyProof.Rows L2 PySem.W PySem.SeqAt
section
variable {C : Cn} {F : Hp} {m : List Addr} {S : List Ob} {τ : List (V × GV)} {H : Hp} {b : Addr}
theorem hob_tup {s : Sh} {vs us : List V} : hob s vs ≠ .tup us := by cases s <;> exact fun e => nomatch e
/-- a tracked tuple of keys is locked too -/
theorem Ok.lockTup {us : List V} (h : Ok C F m S τ H) (hb : H b = some (.tup us)) : ∃ F', Sub F F' ∧ Ok C F' m S τ H ∧ F' b = some (.tup us) := by
  cases e : F b with
  | some o =>
    have := h.sub b o e
    rw [hb] at this
    cases this
    exact ⟨F, Sub.refl F, h, e⟩
  | none =>
    have sF : Sub F (upd F b (.tup us)) := Sub.upd e
    refine ⟨upd F b (.tup us), sF, ⟨fun a u ea => ?_, fun q hq => ?_, h.nd, h.len, fun n ob a e1 e2 => ?_⟩, upd_same⟩
    · by_cases z : a = b
      · subst z; rw [upd_same] at ea; rw [hb]; exact ea
      · rw [upd_ne z] at ea; exact h.sub a u ea
    · have hh := h.held q hq
      refine hh.mono sF (Pre.refl m) fun a o e1 e2 => ⟨e2, fun e3 => ?_⟩
      have z : a ≠ b := fun z => by
        subst z
        obtain ⟨v, g⟩ := q
        cases g with
        | d x => cases v <;> cases e1
        | ob s xs =>
          obtain ⟨a', vs, e4, h1, _⟩ := hh
          subst e4
          cases e1
          rw [hb] at h1
          exact hob_tup (Option.some.inj h1).symm
      rw [upd_ne z]; exact e3
    · have ho := h.st n ob a e1 e2
      cases ob with
      | dead => exact ho
      | ob s xs =>
        obtain ⟨vs, h1, h2, h3⟩ := ho
        have z : a ≠ b := fun z => by
          subst z
          rw [hb] at h1
          exact hob_tup (Option.some.inj h1).symm
        exact ⟨vs, h1, by rw [upd_ne z]; exact h2, h3.mono sF (Pre.refl m)⟩
theorem rpl_keys : ∀ (k : List L2.Key), RpL C F m (k.map kV) (k.map keyD)
  | [] => .nil
  | .inl i :: k => .cons (.int i) (rpl_keys k)
  | .inr x :: k => .cons (.str x) (rpl_keys k)
theorem Sim.keyRows : ∀ {ws : List V} {ds : List D}, Sim C S τ H → EachIs (KRel H) ws ds → Sim C S (ws.zip (ds.map GV.d) ++ τ) H ∧ ws.length = ds.length
  | _, _, h, .nil => ⟨h, rfl⟩
  | _, _, h, .cons a t => by
    obtain ⟨h', e⟩ := Sim.keyRows h t
    obtain ⟨b, k, rfl, rfl, hb⟩ := a
    obtain ⟨F, m, ok⟩ := h'
    obtain ⟨F', sF, ok', fb⟩ := ok.lockTup hb
    exact ⟨(ok'.add (.tup (.inl (.inl fb)) (.inl fb) (rpl_keys k))).sim, congrArg Nat.succ e⟩
end
section
variable {X : Cx} {C : Cn}
theorem ok_sortedDT : Op1Ok C fSortDT (fun x H Q => rSortDT [x] H Q) := fun F m S τ H v x g Q ok b e k => by
  unfold fSortDT at e
  split at e
  · rename_i rest
    split at e
    · rename_i q
      cases e
      simp only [Bool.and_eq_true, List.all_eq_true, decide_eq_true_eq] at q
      obtain ⟨⟨q1, q2⟩, q3⟩ := q
      obtain ⟨a, kvs, rfl, h1, hk⟩ := rb_dt b ok.sub
      rw [hk] at q1 q2 q3 k
      refine ⟨a, kvs, rfl, h1, q1, q2, fun z hz => q3 _ (List.mem_map.mpr ⟨z, hz, rfl⟩), fun p ws hp he => k _ _ ?_⟩
      obtain ⟨s1, s2⟩ := Sim.keyRows ok.sim he
      exact Sim.newLst s1 s2 hp
    · cases e
  · cases e
/-- sorted, of a list or of a dict with tuple keys -/
def fSortAll (S : List Ob) (x : D) : Option GV := match x with
  | .dict ((.bool false, .none) :: _) => fSortDT S x
  | _ => fSorted S x
theorem ok_sortAll : Op1Ok C fSortAll (fun x H Q => rSortD C.K [x] H Q ∨ rSortDT [x] H Q) := fun F m S τ H v x g Q ok b e k => by
  unfold fSortAll at e
  split at e
  · exact .inr (ok_sortedDT F m S τ H v _ g Q ok b e k)
  · exact .inl (ok_sorted F m S τ H v _ g Q ok b e k)
theorem cr_sortAll (hc : X.calm = true) (hu : X.A.units + 200 < cLine) : CallR X (.builtin "sorted") (fun us H Q => rSortD X.K us H Q ∨ rSortDT us H Q) := by
  intro pins s σ H xs us Q I r h
  rcases h with h | h
  · exact cr_sortD hu pins s σ H xs us Q I r h
  · exact cr_sortedDT hc hu pins s σ H xs us Q I r h
end
end Mi

set_option Elab.async false
set_option linter.all false
set_option maxRecDepth 100000
set_option maxHeartbeats 4000000
/-! MX: list.extend(a tuple). -/
namespace Mi
open PySem PySem.Spec PyProof.Rows L2 PySem.W PySem.SeqAt
theorem meets_extT (l : Addr) (items : Array Value) (n : Nat) (b : Addr) (items2 : Array Value) (hne : l ≠ b) (hlong : ¬ (!items.isEmpty && Builtin.List.listTooLong (items.size + items2.size)) = true) (h1 : items.size ≤ sizeLine) (h2 : items.size + items2.size ≤ sizeLine + 1) :
    Meets (Builtin.«list.extend» ⟨[.ref l, .ref b], []⟩) (fun _ R s => s.heap.get? l = some { cls := .type "list", dict := none, data := .seq items n, slots := #[] } ∧ IsTup s.heap b items2 ∧ R (.ok (.ret Value.none)) { s with heap := s.heap.update l (Obj.mapSeq fun x => x ++ items2) }) :=
  .of_wp fun prog w A R s h => by
    obtain ⟨hl, ⟨o, ho, hc, n2, hd⟩, h⟩ := h
    show wpAny _ _ (Builtin.List.listExtendWith (.ref l) (.ref b) .none) _ _ s
    unfold Builtin.List.listExtendWith
    refine wpAny_bind (wpAny_typeOf (T := "tuple") ⟨o, ho, hc⟩ ?_)
    have e1 : (Builtin.List.listSameRef (.ref l) (.ref b) || Value.type "tuple" == Value.type "list" || Value.type "tuple" == Value.type "tuple") = true := by
      rw [show (Value.type "tuple" == Value.type "tuple") = true from by decide, Bool.or_true]
    simp only [e1, if_true]
    refine wpAny_bind ?_
    unfold Builtin.List.listItems
    refine wpAny_bind (wpAny_seqItems ho hd (wpAny_pure ?_))
    refine wpAny_bind ?_
    refine wpAny_bind (wpAny_seqItems hl rfl (wpAny_pure ?_))
    simp only [hlong, if_false]
    show wpAny _ _ (updateSeq l (· ++ items2) >>= fun _ => ret .none) _ _ s
    have hz' : (items ++ items2).size ≤ sizeLine + 1 := by rw [Array.size_append]; exact h2
    exact wpAny_bind (wpAny_updateSeq hl rfl (hz := h1) (_hz' := hz') (wpAny_pure ⟨_, rfl, h⟩))
def rExtT (K : PySem.W.Frag) : V → List V → Hp → VK → Prop := fun x vs H Q => ∃ l b xs zs, x = .ref l ∧ vs = [.ref b] ∧ H l = some (.lst xs) ∧ SqT K H b zs ∧ xs.length + zs.length ≤ sizeLine ∧ Q .non (upd H l (.lst (xs ++ zs)))
theorem mt_extT {X : Cx} : MtM X "list.extend" (rExtT X.K) := by
  intro pins s σ H x vs v us Q I rx rv h
  obtain ⟨l, b, xs, zs, rfl, rfl, hH, hB, hz, q⟩ := h
  cases rx
  obtain ⟨u, rfl, ru⟩ := rv.one
  cases ru
  obtain ⟨z, its, n, r, hl, e⟩ := I.lstM hH
  obtain ⟨its2, r2, t2, z2⟩ := I.tuple hB
  have hl2 := r2.length
  have hne : l ≠ b := fun q => by
    subst q
    obtain ⟨o, ho, hc, _⟩ := t2
    rw [e] at ho
    cases ho
    exact absurd (show Value.type "list" = Value.type "tuple" from hc) (by decide)
  have hsz : its.toArray.size + its2.toArray.size ≤ sizeLine := by rw [List.size_toArray, List.size_toArray]; omega
  have hlong : ¬ (!its.toArray.isEmpty && Builtin.List.listTooLong (its.toArray.size + its2.toArray.size)) = true := by
    rw [notLongL hsz, Bool.and_false]
    exact Bool.false_ne_true
  refine call_meets F.slot_list_extend ⟨_, e, rfl⟩ F.entry_list_extend (F.args_list_extend_2 _ _)
    (meets_extT l its.toArray n b its2.toArray hne hlong (by rw [List.size_toArray]; omega) (by omega)) ⟨e, t2, ?_⟩
  refine ⟨.non, _, I.lset (its' := its ++ its2) hH e (by simp) (r.append r2) ?_, rfl, q⟩
  rw [List.length_append]
  omega
def rExtAll (K : PySem.W.Frag) : V → List V → Hp → VK → Prop := fun x vs H Q => rExtend x vs H Q ∨ rExtT K x vs H Q
theorem mt_extAll {X : Cx} : MtM X "list.extend" (rExtAll X.K) := fun pins s σ H x vs v us Q I rx rv h => h.elim (mt_extend pins s σ H x vs v us Q I rx rv) (mt_extT pins s σ H x vs v us Q I rx rv)
def fExtAll (S : List Ob) (xs : List D) (x : D) : Option (D × List D) := match x with
  | .tuple ys => if xs.length + ys.length ≤ lim then some (.none, xs ++ ys) else none
  | x => fExtend S xs x
theorem ok_extAll {C : Cn} : Mt1Ok C fExtAll (rExtAll C.K) := fun F m S τ H a u vs xs x y ys Q ok h r1 r2 e k => by
  unfold fExtAll at e
  split at e
  · rename_i zs
    split at e
    · rename_i hl
      cases e
      obtain ⟨b, us, rfl, h1, h2⟩ := Rb.tup (.inl r2) ok.sub
      refine .inr ⟨a, b, vs, us, rfl, rfl, h, h1, by rw [r1.len, h2.len]; exact lim_line hl, ?_⟩
      exact k (vs ++ us) .non (by rw [List.length_append, List.length_append, r1.len, h2.len]) (r1.app h2) .non
    · cases e
  · exact .inl (ok_extend F m S τ H a u vs xs _ y ys Q ok h r1 r2 e k)
end Mi

set_option Elab.async false
set_option linter.all false
set_option maxRecDepth 100000
set_option maxHeartbeats 4000000
/-! MN: expressions of the text to what they reckon. -/
namespace Mi
open PySem PySem.Spec PyProof.Rows L2 PySem.W PySem.SeqAt

/-- what a name of the module is -/
inductive Gk where
  | dat (d : D) | fn (i : Nat) | tab (t : List (Str × D))
structure Ctx where
  N : List Str
  names : List (Str × NameKind)
  glo : List (Str × Gk)
  call : Calls
  own : List Str
  share : List Str
  cel : Str → Bool
  /-- rows that may be tuples of the written part -/
  kc : List D → Bool
  /-- where a {} is to have tuple keys -/
  dts : List (Nat × Nat)
  /-- names that hold dicts -/
  dvars : List Str
/-- the built-ins that are used: no name of the module is one of these -/
def bltNames : List Str := ["len", "abs", "int", "sorted", "sum", "tuple", "zip", "range", "isinstance", "list", "str", "bool", "max", "min", "all", "any", "dict", "set", "enumerate", "reversed", "ValueError", "Exception"]
structure CtxOk (X : Cx) (C : Cn) (k : Nat) (c : Ctx) : Prop where
  N : X.N = c.N
  nd : X.N.Nodup
  names : X.env.scope.names = c.names
  kind : X.env.scope.kind = .function
  calm : X.calm = true
  K : C.K = X.K
  room : Room k X.A
  defs : AllDefs X C c.call k
  dat : ∀ x d, c.glo.lookup x = some (.dat d) → ∃ u v, X.mg x = some u ∧ RelV v u ∧ Rp C (fun _ => none) [] v d
  fn : ∀ x i, c.glo.lookup x = some (.fn i) → ∃ a, X.mg x = some (.ref a) ∧ C.fa i = some a
  tab : ∀ x t, c.glo.lookup x = some (.tab t) → ∃ a, X.mg x = some (.ref a) ∧ ∀ z y, t.lookup z = some y → ∃ v, KDct X.K X.w a z v ∧ Rp C (fun _ => none) [] v y
  blt : ∀ x, bltNames.contains x = true → X.mg x = none
  cel : ∀ x, c.cel x = true → X.fn x = true
  kc : C.kc = c.kc
  po : PassesOwn (model X.prog X.w) X.A X.env X.xe
theorem CtxOk.un {X C k c} (h : CtxOk X C k c) : X.A.units + 200 < cLine := by
  have := h.room.un
  omega

def slotOf (c : Ctx) (x : Str) : Option Nat := match c.names.lookup x with
  | some .local => c.N.idxOf? x
  | some .cell => c.N.idxOf? x
  | some .free => c.N.idxOf? x
  | _ => none
def plainNm (x : Str) : Bool := !(x == ("__debug__" : Str)) && !(x == ("__classdict__" : Str)) && !(x == ("__name__" : Str))
theorem plainNm_of {x : Str} (h : plainNm x = true) : (x == ("__debug__" : Str)) = false ∧ (x == ("__classdict__" : Str)) = false ∧ x ≠ "__name__" := by
  unfold plainNm at h
  simp only [Bool.and_eq_true, Bool.not_eq_true'] at h
  exact ⟨h.1.1, h.1.2, fun z => by rw [z] at h; simp at h⟩
theorem idxOf?_get {x : Str} : ∀ {l : List Str} {i : Nat}, l.idxOf? x = some i → l[i]? = some x
  | [], i, h => by simp [List.idxOf?] at h
  | y :: l, i, h => by
    unfold List.idxOf? at h
    rw [List.findIdx?_cons] at h
    split at h
    · rename_i e
      cases h
      rw [List.getElem?_cons_zero, eq_of_beq e]
    · obtain ⟨j, h1, h2⟩ := Option.map_eq_some_iff.mp h
      subst h2
      rw [List.getElem?_cons_succ]
      exact idxOf?_get h1
theorem slot_vis {X C k c} (h : CtxOk X C k c) {x : Str} {i : Nat} (e : slotOf c x = some i) : X.N[i]? = some x ∧ Vis X.env.scope x := by
  unfold slotOf at e
  unfold Vis
  rw [h.names, h.N]
  split at e
  · rename_i q; exact ⟨idxOf?_get e, .inl q⟩
  · rename_i q; exact ⟨idxOf?_get e, .inr (.inl q)⟩
  · rename_i q; exact ⟨idxOf?_get e, .inr (.inr q)⟩
  · cases e
def isGl (c : Ctx) (x : Str) : Bool := c.names.lookup x == some .globalImplicit
theorem gl_of {X C k c} (h : CtxOk X C k c) {x : Str} (e : isGl c x = true) : Gl X x := by
  unfold Gl Env.kindOf
  rw [h.names]
  unfold isGl at e
  exact eq_of_beq e
/-- a built-in's name -/
def isBlt (c : Ctx) (x : Str) : Bool := isGl c x && plainNm x && bltNames.contains x
theorem blt_of {X C k c} (h : CtxOk X C k c) {x : Str} (e : isBlt c x = true) : Gl X x ∧ X.mg x = none ∧ x ≠ "__name__" ∧ (x == ("__debug__" : Str)) = false := by
  unfold isBlt at e
  rw [Bool.and_eq_true, Bool.and_eq_true] at e
  obtain ⟨⟨e1, e2⟩, e3⟩ := e
  obtain ⟨p1, _, p3⟩ := plainNm_of e2
  exact ⟨gl_of h e1, h.blt x e3, p3, p1⟩

/-- a level of the reading -/
structure Den where
  E : Ctx → Expr → M GV
  T : Ctx → Expr → M Bool

/-! ### operators by name -/
def binF : Operator → Option (List Ob → D → D → Option GV)
  | .Add => some fAdd
  | .Sub => some fSub
  | .Mult => some fMul
  | .FloorDiv => some fDiv
  | .Mod => some fMod
  | .Pow => some fPow
  | .LShift => some fShl
  | .RShift => some fShr
  | _ => none
theorem binF_ok {X C k c} (h : CtxOk X C k c) {op : Operator} {f : List Ob → D → D → Option GV} (e : binF op = some f) : ∃ r, OpR X (binaryOp op) r ∧ Op2Ok C f r := by
  unfold binF at e
  split at e <;> cases e
  · exact ⟨_, op_addM, by rw [← h.K]; exact ok_add⟩
  · exact ⟨_, op_sub, ok_int0⟩
  · exact ⟨_, op_mulW, ok_mul⟩
  · exact ⟨_, op_fdivW, ok_div⟩
  · exact ⟨_, op_mod, ok_mod⟩
  · exact ⟨_, op_pow, ok_pow⟩
  · exact ⟨_, op_shl, ok_shl⟩
  · exact ⟨_, op_shr, ok_shr⟩
def cmpF : CmpOp → Option (List Ob → D → D → Option GV)
  | .Lt => some fLt
  | .LtE => some fLe
  | .Gt => some fGt
  | .GtE => some fGe
  | .Eq => some fEq
  | .NotEq => some fNe
  | .In => some (fIn false)
  | .NotIn => some (fIn true)
  | _ => none
def isSet : Expr → Bool
  | .Set _ _ _ => true
  | _ => false
theorem marks_no {op : CmpOp} {e : Expr} (h : isSet e = false) : behindInMarks op e = false := by
  cases e <;> first | rfl | cases h
theorem cmpF_ok {X C k c} (h : CtxOk X C k c) {op : CmpOp} {f : List Ob → D → D → Option GV} (e : cmpF op = some f) : ∃ r, OpR X (compareOp op) r ∧ Op2Ok C f r := by
  unfold cmpF at e
  split at e <;> cases e
  · exact ⟨_, op_lt, ok_intB⟩
  · exact ⟨_, op_le, ok_intB⟩
  · exact ⟨_, op_gt, ok_intB⟩
  · exact ⟨_, op_ge, ok_intB⟩
  · exact ⟨_, op_eqP h.un, by rw [← h.K]; exact ok_eq⟩
  · exact ⟨_, op_neP h.un, by rw [← h.K]; exact ok_ne⟩
  · exact ⟨_, op_inP h.un, by rw [← h.K]; exact ok_in⟩
  · exact ⟨_, op_notInP h.un, by rw [← h.K]; exact ok_in⟩
def b1F (x : Str) : Option (List Ob → D → Option GV) :=
  if x = "abs" then some fAbs else if x = "int" then some fInt1 else if x = "len" then some fLen else if x = "tuple" then some fTuple else
  if x = "list" then some fList else if x = "sum" then some fSum else if x = "sorted" then some fSortAll else none
theorem b1F_ok {X C k c} (h : CtxOk X C k c) {x : Str} {f : List Ob → D → Option GV} (e : b1F x = some f) (hb : isBlt c x = true) {a : Opd} {ea : Expr} {p pos : Pos} (hst : isStar ea = false) (ha : SndO X C a ea) : Snd X C (cOp1 f a) (.Call (.Name x p) [ea] [] pos) := by
  obtain ⟨h1, h2, h3, h4⟩ := blt_of h hb
  unfold b1F at e
  split at e
  · rename_i q; subst q; cases e
    exact snd_op1 ok_abs ha (pe_b1 call_abs h1 h2 (by decide +kernel) h3 h4 hst)
  split at e
  · rename_i q; subst q; cases e
    exact snd_op1 ok_int1 ha (pe_t1 call_int1 h1 h2 (by decide +kernel) h3 h4 hst)
  split at e
  · rename_i q; subst q; cases e
    refine snd_op1 ok_len ha ?_
    rw [h.K]
    exact pe_b1 call_len_seq h1 h2 (by decide +kernel) h3 h4 hst
  split at e
  · rename_i q; subst q; cases e
    refine snd_op1 ok_tuple ha ?_
    rw [h.K]
    exact pe_t1 call_tuple_of h1 h2 (by decide +kernel) h3 h4 hst
  split at e
  · rename_i q; subst q; cases e
    refine snd_op1 ok_list ha ?_
    rw [h.K]
    exact pe_t1 call_list_of h1 h2 (by decide +kernel) h3 h4 hst
  split at e
  · rename_i q; subst q; cases e
    refine snd_op1 ok_sum ha ?_
    rw [h.K]
    exact pe_b1 (cr_sum h.calm) h1 h2 (by decide +kernel) h3 h4 hst
  split at e
  · rename_i q; subst q; cases e
    refine snd_op1 ok_sortAll ha ?_
    rw [h.K]
    exact pe_b1 (cr_sortAll h.calm h.un) h1 h2 (by decide +kernel) h3 h4 hst
  · cases e
def mt1F (m : Str) : Option (List Ob → List D → D → Option (D × List D)) := if m = "append" then some fAppend else if m = "extend" then some fExtAll else none
theorem few_ok {e : Expr} {env : Env} {cpos : Pos} (hst : isStar e = false) : ((backTo cpos (starEach [e] env)).all (fun x => !x.1) && (backToKw cpos (keywordEach [] env)).all (fun x => x.1.isSome)
      && decide (([e] : List Expr).length + ([] : List Keyword).length + (if ([] : List Keyword).isEmpty then 0 else 1) < 30)) = true := by
  rw [starEach_no hst]; rfl
theorem mt1F_ok {X C k c} (h : CtxOk X C k c) {m : Str} {f : List Ob → List D → D → Option (D × List D)} (e : mt1F m = some f) {i : Nat} {cc : M GV} {o ea : Expr} {apos cpos : Pos} (ho : PE X o (tVar i)) (hb : attributeBase o m X.env (eval o X.env) = eval o X.env) (hst : isStar ea = false) (hl : (apos.endLine == cpos.line) = true) (ha : Snd X C cc ea) :
    Snd X C (cMt1 i f cc) (.Call (.Attribute o m apos) [ea] [] cpos) := by
  unfold mt1F at e
  split at e
  · rename_i q; subst q; cases e
    exact fun σ ρ S τρ τ H Q sl hs q => ue_of (pe_bm PySem.F.plainAttrs_list PySem.F.slot_list_append PySem.F.type_list_append mt_append ho (pa_cons pe_u pa_nil (starEach_no hst)) hb (few_ok hst) hl (starEach_no hst) rfl) (by rw [← h.K]; exact go_mt1 ok_append ha sl hs q)
  split at e
  · rename_i q; subst q; cases e
    exact fun σ ρ S τρ τ H Q sl hs q => ue_of (pe_bm PySem.F.plainAttrs_list PySem.F.slot_list_extend PySem.F.type_list_extend mt_extAll ho (pa_cons pe_u pa_nil (starEach_no hst)) hb (few_ok hst) hl (starEach_no hst) rfl) (by rw [← h.K]; exact go_mt1 ok_extAll ha sl hs q)
  · cases e
end Mi

set_option Elab.async false
set_option linter.all false
set_option maxRecDepth 100000
set_option maxHeartbeats 4000000
/-! MO: the reading of expressions, sound. -/
namespace Mi
open PySem PySem.Spec PyProof.Rows L2 PySem.W PySem.SeqAt

def DenOk (d : Den) : Prop := ∀ X C k c, CtxOk X C k c → (∀ e, Snd X C (d.E c e) e) ∧ (∀ e, SndT X C (d.T c e) e)
/-- a name's slot, by its plain name -/
def slotP (c : Ctx) (x : Str) : Option Nat := if plainNm x then slotOf c x else none
theorem slotP_var {X C k c} (h : CtxOk X C k c) {x : Str} {i : Nat} (e : slotP c x = some i) (pos : Pos) : PE X (.Name x pos) (tVar i) := by
  unfold slotP at e
  split at e
  · rename_i p
    obtain ⟨p1, p2, _⟩ := plainNm_of p
    obtain ⟨h1, h2⟩ := slot_vis h e
    exact pe_var h1 h2 p1 p2
  · cases e
theorem slotP_snd {X C k c} (h : CtxOk X C k c) {x : Str} {i : Nat} (e : slotP c x = some i) (pos : Pos) : Snd X C (cVar i) (.Name x pos) := by
  unfold slotP at e
  split at e
  · rename_i p
    obtain ⟨p1, p2, _⟩ := plainNm_of p
    obtain ⟨h1, h2⟩ := slot_vis h e
    exact snd_var h1 h2 p1 p2
  · cases e
def glP (c : Ctx) (x : Str) : Bool := isGl c x && plainNm x
theorem glP_of {X C k c} (h : CtxOk X C k c) {x : Str} (e : glP c x = true) : Gl X x ∧ (x == ("__debug__" : Str)) = false := by
  unfold glP at e
  rw [Bool.and_eq_true] at e
  exact ⟨gl_of h e.1, (plainNm_of e.2).1⟩

section
variable (d : Den) (c : Ctx)
def varOf (e : Expr) : Option Nat := match e with
  | .Name x _ => slotP c x
  | _ => none
def opd (e : Expr) : Opd := match varOf c e with
  | some i => .var i
  | none => .val (d.E c e)
def rowE : List Expr → M (List D)
  | [] => aNil
  | .Starred e _ :: es => aStar (opd d c e) (rowE es)
  | e :: es => aCons (d.E c e) (rowE es)
def nameE (x : Str) : M GV := match slotP c x with
  | some i => cVar i
  | none => if glP c x then (match c.glo.lookup x with
    | some (.dat y) => cC y
    | some (.fn i) => cC (dFn i)
    | _ => cBad) else cBad
def constE : Const → M GV
  | .int i => cC (.int i)
  | .bool b => cC (.bool b)
  | .none => cC .none
  | .str x => cC (.str x)
  | _ => cBad
def tysOf : List Expr → Option (List (Str × String × Pos))
  | [] => some []
  | .Name y p :: es => (match tyNm y with
    | some n => if isBlt c y then (tysOf es).map ((y, n, p) :: ·) else none
    | none => none)
  | _ => none
def isiE (a b : Expr) : M GV := if isBlt c "isinstance" && !isStar a then (match b with
  | .Name y p => (match tysOf c [.Name y p] with
    | some [(_, n, _)] => cOp1 (fIsi [n]) (opd d c a)
    | _ => cBad)
  | .Tuple es _ _ => (match tysOf c es with
    | some l => if l.length ≤ 1000 then cOp1 (fIsi (l.map fun q => q.2.1)) (opd d c a) else cBad
    | none => cBad)
  | _ => cBad) else cBad
def isZipC : Expr → Option (Expr × Expr)
  | .Call (.Name x _) [a, b] [] _ => if x = "zip" then some (a, b) else none
  | _ => none
def bltE (x : Str) (args : List Expr) : M GV := match args with
  | [a] => match isZipC a, decide (x = "list") with
    | some (u, v), true => if isBlt c "list" && isBlt c "zip" && !isStar u && !isStar v then cLZip (rowE d c [u, v]) else cBad
    | _, _ => if isBlt c x && !isStar a then (match b1F x with
    | some f => cOp1 f (opd d c a)
    | none => cBad) else cBad
  | [a, b] => if x = "isinstance" then isiE d c a b else cBad
  | _ => cBad
def noStars (args : List Expr) : Bool := args.all fun e => !isStar e
def callE (f : Expr) (args : List Expr) (cpos : Pos) : M GV := match f with
  | .Name x _ => (match slotP c x with
    | some _ => (match args with
      | [] => cBad
      | _ :: _ => if noStars args then cCallV c.call (d.E c f) (rowE d c args) else cBad)
    | none => (match c.glo.lookup x with
      | some (.fn i) => if glP c x && noStars args then cCall c.call i (rowE d c args) else cBad
      | some _ => cBad
      | none => bltE d c x args))
  | .Attribute o m apos => (match varOf c o with
    | some i => if apos.endLine == cpos.line then (match args with
      | [a] => if isStar a then cBad else (match mt1F m with
        | some g => cMt1 i g (d.E c a)
        | none => cBad)
      | [] => if m = "pop" then cMt0 i fPop else cBad
      | _ => cBad) else cBad
    | none => cBad)
  | .Subscript _ _ _ => (match args with
    | [] => cBad
    | _ :: _ => if noStars args then cCallV c.call (d.E c f) (rowE d c args) else cBad)
  | _ => cBad
def subE (o i : Expr) : M GV := if isSlice i then (match i with
    | .Slice lo hi none _ => cCut (opd d c o) (lo.map (d.E c)) (hi.map (d.E c))
    | _ => cBad)
  else match o with
    | .Name x _ => (match slotP c x, c.glo.lookup x with
      | none, some (.tab t) => if glP c x then cTab t (d.E c i) else cBad
      | _, _ => cOp2 fIx (opd d c o) (opd d c i))
    | _ => cOp2 fIx (opd d c o) (opd d c i)
def isNoneE : Expr → Bool
  | .Constant .none _ _ => true
  | _ => false
def cmpE (a : Expr) (op : CmpOp) (b : Expr) : M GV := if isNoneE b then (match op with
    | .Is => cOp1 fIsN (opd d c a)
    | .IsNot => cOp1 fNotN (opd d c a)
    | _ => cBad)
  else if isSet b then cBad else (match cmpF op with
    | some f => cOp2 f (opd d c a) (opd d c b)
    | none => cBad)
end

section
variable {d : Den} {X : Cx} {C : Cn} {k : Nat} {c : Ctx}
theorem varOf_pe (h : CtxOk X C k c) {e : Expr} {i : Nat} (q : varOf c e = some i) : PE X e (tVar i) := by
  unfold varOf at q
  split at q
  · exact slotP_var h q _
  · cases q
theorem varOf_at (h : CtxOk X C k c) {e : Expr} {i : Nat} (q : varOf c e = some i) (m : Str) : attributeBase e m X.env (eval e X.env) = eval e X.env := by
  unfold varOf at q
  split at q
  · rfl
  · cases q
theorem opd_ok (hd : DenOk d) (h : CtxOk X C k c) (e : Expr) : SndO X C (opd d c e) e := by
  unfold opd
  split
  · rename_i i q
    exact varOf_pe h q
  · exact (hd X C k c h).1 e
theorem rowE_ok (hd : DenOk d) (h : CtxOk X C k c) : ∀ es, SndA X C (rowE d c es) es
  | [] => snda_nil
  | e :: es => by
    have ih := rowE_ok hd h es
    unfold rowE
    split
    · rename_i q; cases q
    · rename_i q; cases q
      exact snda_star h.K (opd_ok hd h _) ih
    · rename_i n q; cases q
      refine snda_cons ?_ ((hd X C k c h).1 _) ih
      cases e <;> first | rfl | exact (n _ _ rfl).elim
theorem nameE_ok (h : CtxOk X C k c) (x : Str) (pos : Pos) : Snd X C (nameE c x) (.Name x pos) := by
  unfold nameE
  split
  · rename_i i q
    exact slotP_snd h q pos
  · split
    · rename_i q
      obtain ⟨g1, g2⟩ := glP_of h q
      split
      · rename_i y e
        obtain ⟨u, v, m1, r, p⟩ := h.dat _ _ e
        exact snd_glob g1 m1 r p g2
      · rename_i i e
        obtain ⟨a, m1, m2⟩ := h.fn _ _ e
        exact snd_fn g1 m1 m2 g2
      · exact snd_bad
    · exact snd_bad
theorem constE_ok {k0 : Const} {j pos} : Snd X C (constE k0) (.Constant k0 j pos) := by
  unfold constE
  split
  · exact snd_int
  · exact snd_bl
  · exact snd_non
  · exact snd_str
  · exact snd_bad
theorem tysOf_ok (h : CtxOk X C k c) : ∀ {es : List Expr} {l : List (Str × String × Pos)}, tysOf c es = some l → es = tyPos l ∧ ∀ q ∈ l, Gl X q.1 ∧ X.mg q.1 = none ∧ bootBuiltins q.1 = some (.type q.2.1) ∧ q.1 ≠ "__name__" ∧ (q.1 == ("__debug__" : Str)) = false
  | [], l, e => by
    unfold tysOf at e; cases e
    exact ⟨rfl, fun q hq => by cases hq⟩
  | e0 :: es, l, e => by
    unfold tysOf at e
    split at e
    · rename_i q; cases q
    · rename_i y p es' q; cases q
      split at e
      · rename_i n en
        split at e
        · rename_i eb
          obtain ⟨l', e1, e2⟩ := Option.map_eq_some_iff.mp e
          subst e2
          obtain ⟨i1, i2⟩ := tysOf_ok h e1
          refine ⟨by rw [i1]; rfl, fun q hq => ?_⟩
          rcases List.mem_cons.mp hq with rfl | hq
          · obtain ⟨b1, b2, b3, b4⟩ := blt_of h eb
            refine ⟨b1, b2, ?_, b3, b4⟩
            unfold tyNm at en
            split at en
            · rename_i z; cases en; exact z
            · cases en
          · exact i2 q hq
        · cases e
      · cases e
    · cases e
theorem isiE_ok (hd : DenOk d) (h : CtxOk X C k c) (a b : Expr) (p pos : Pos) : Snd X C (isiE d c a b) (.Call (.Name "isinstance" p) [a, b] [] pos) := by
  unfold isiE
  split
  · rename_i q
    rw [Bool.and_eq_true, Bool.not_eq_true'] at q
    obtain ⟨b1, b2, b3, b4⟩ := blt_of h q.1
    split
    · rename_i y py
      split
      · rename_i y' n p' e
        obtain ⟨i1, i2⟩ := tysOf_ok h e
        cases i1
        obtain ⟨j1, j2, j3, j4, j5⟩ := i2 _ (List.mem_cons_self ..)
        exact snd_isi h.K b1 b2 q.2 j1 j2 j3 j4 j5 (opd_ok hd h a)
      · exact snd_bad
    · rename_i es kk py
      split
      · rename_i l e
        obtain ⟨i1, i2⟩ := tysOf_ok h e
        subst i1
        split
        · rename_i hl
          exact snd_isiT h.K b1 b2 q.2 hl i2 (opd_ok hd h a)
        · exact snd_bad
      · exact snd_bad
    · exact snd_bad
  · exact snd_bad
theorem bltE_ok (hd : DenOk d) (h : CtxOk X C k c) (x : Str) (args : List Expr) (p pos : Pos) : Snd X C (bltE d c x args) (.Call (.Name x p) args [] pos) := by
  unfold bltE
  split
  · rename_i a
    split
    · rename_i u v e1 e2
      have e2 : x = "list" := of_decide_eq_true e2
      subst e2
      have ea : ∃ p2 pos2, a = .Call (.Name "zip" p2) [u, v] [] pos2 := by
        unfold isZipC at e1
        split at e1
        · split at e1
          · rename_i e; subst e; cases e1; exact ⟨_, _, rfl⟩
          · cases e1
        · cases e1
      obtain ⟨p2, pos2, rfl⟩ := ea
      split
      · rename_i q
        simp only [Bool.and_eq_true, Bool.not_eq_true'] at q
        obtain ⟨⟨⟨q1, q2⟩, q3⟩, q4⟩ := q
        exact snd_lzip h.K h.calm (blt_of h q1).1 (blt_of h q1).2.1 (blt_of h q2).1 (blt_of h q2).2.1 q3 q4 (rowE_ok hd h _)
      · exact snd_bad
    · split
      · rename_i q
        rw [Bool.and_eq_true, Bool.not_eq_true'] at q
        split
        · rename_i f e
          exact b1F_ok h e q.1 q.2 (opd_ok hd h a)
        · exact snd_bad
      · exact snd_bad
  · rename_i a b
    split
    · rename_i e; subst e
      exact isiE_ok hd h a b p pos
    · exact snd_bad
  · exact snd_bad
theorem callE_ok (hd : DenOk d) (h : CtxOk X C k c) (f : Expr) (args : List Expr) (cpos : Pos) : Snd X C (callE d c f args cpos) (.Call f args [] cpos) := by
  unfold callE
  split
  · rename_i x p
    split
    · split
      · exact snd_bad
      · split
        · rename_i hs
          exact snd_callV h.defs h.room rfl hs ((hd X C k c h).1 _) (rowE_ok hd h _)
        · exact snd_bad
    · split
      · rename_i i e
        split
        · rename_i q
          rw [Bool.and_eq_true] at q
          obtain ⟨g1, g2⟩ := glP_of h q.1
          obtain ⟨a, m1, m2⟩ := h.fn _ _ e
          obtain ⟨n, fd, ps, df⟩ := h.defs i a m2
          cases args with
          | nil => exact snd_call0 df h.room g1 m1 g2
          | cons e0 es => exact snd_call df h.room g1 m1 g2 q.2 (rowE_ok hd h _)
        · exact snd_bad
      · exact snd_bad
      · exact bltE_ok hd h x args p cpos
  · rename_i o m apos
    split
    · rename_i i q
      split
      · rename_i hl
        split
        · rename_i a
          split
          · exact snd_bad
          · rename_i hs
            split
            · rename_i g e
              exact mt1F_ok h e (varOf_pe h q) (varOf_at h q m) (by simpa using hs) hl ((hd X C k c h).1 a)
            · exact snd_bad
        · split
          · rename_i e; subst e
            exact fun σ ρ S τρ τ H Q sl hs z => ue_of (pe_bm0 PySem.F.plainAttrs_list PySem.F.slot_list_pop PySem.F.type_list_pop mt_pop (varOf_pe h q) (varOf_at h q _) hl) (by rw [← h.K]; exact go_mt0 ok_pop sl hs z)
          · exact snd_bad
        · exact snd_bad
      · exact snd_bad
    · exact snd_bad
  · split
    · exact snd_bad
    · split
      · rename_i hs
        exact snd_callV h.defs h.room rfl hs ((hd X C k c h).1 _) (rowE_ok hd h _)
      · exact snd_bad
  · exact snd_bad
theorem opt_ok (hd : DenOk d) (h : CtxOk X C k c) : ∀ e : Option Expr, SndOp X C (e.map (d.E c)) e
  | none => sndop_none
  | some e => sndop_some ((hd X C k c h).1 e)
theorem ix2_ok (hd : DenOk d) (h : CtxOk X C k c) (o i : Expr) (pos : Pos) (hs : isSlice i = false) : Snd X C (cOp2 fIx (opd d c o) (opd d c i)) (.Subscript o i pos) :=
  snd_op2 ok_ix (opd_ok hd h o) (opd_ok hd h i) (by rw [h.K]; exact pe_ix ix_M pe_u pe_u (plainIx_no hs))
theorem subE_ok (hd : DenOk d) (h : CtxOk X C k c) (o i : Expr) (pos : Pos) : Snd X C (subE d c o i) (.Subscript o i pos) := by
  unfold subE
  split
  · split
    · exact snd_cut h.K (opd_ok hd h o) (opt_ok hd h _) (opt_ok hd h _)
    · exact snd_bad
  · rename_i hs
    have hs' : isSlice i = false := by simpa using hs
    split
    · rename_i x p
      split
      · rename_i t e1 e2
        split
        · rename_i q
          obtain ⟨g1, g2⟩ := glP_of h q
          obtain ⟨a, m1, m2⟩ := h.tab _ _ e2
          exact snd_tab h.K g1 m1 g2 hs' m2 ((hd X C k c h).1 i)
        · exact snd_bad
      · exact ix2_ok hd h _ i pos hs'
    · exact ix2_ok hd h o i pos hs'
theorem cmpE_ok (hd : DenOk d) (h : CtxOk X C k c) (a : Expr) (op : CmpOp) (b : Expr) (pos : Pos) : Snd X C (cmpE d c a op b) (.Compare a [op] [b] pos) ∧ SndT X C (tB (cmpE d c a op b)) (.Compare a [op] [b] pos) := by
  have bb : Snd X C cBad (.Compare a [op] [b] pos) ∧ SndT X C (tB cBad) (.Compare a [op] [b] pos) := ⟨snd_bad, fun _ _ _ _ _ _ _ _ _ q => q.elim⟩
  unfold cmpE
  split
  · rename_i hn
    have eb : ∃ j p, b = .Constant .none j p := by
      unfold isNoneE at hn
      split at hn
      · exact ⟨_, _, rfl⟩
      · cases hn
    obtain ⟨j, p, rfl⟩ := eb
    split
    · exact ⟨snd_op1 ok_isN (opd_ok hd h a) ⟨fun pins s σ H Q I q => (pe_cmp (pc_isN pe_u)).run pins s σ H Q I q⟩, sndT_op1 ok_isN (opd_ok hd h a) ⟨fun pins s σ H Q I q => (pt_cmp (pc_isN pe_u)).run pins s σ H Q I q⟩⟩
    · exact ⟨snd_op1 ok_notN (opd_ok hd h a) ⟨fun pins s σ H Q I q => (pe_cmp (pc_notN pe_u)).run pins s σ H Q I q⟩, sndT_op1 ok_notN (opd_ok hd h a) ⟨fun pins s σ H Q I q => (pt_cmp (pc_notN pe_u)).run pins s σ H Q I q⟩⟩
    · exact bb
  · split
    · exact bb
    · rename_i hs
      split
      · rename_i f e
        obtain ⟨r, o1, o2⟩ := cmpF_ok h e
        have hm := marks_no (op := op) (e := b) (by simpa using hs)
        exact ⟨snd_op2 o2 (opd_ok hd h a) (opd_ok hd h b) (pe_cmpR o1 pe_u pe_u hm), sndT_op2 o2 (opd_ok hd h a) (opd_ok hd h b) (pt_cmpR o1 pe_u pe_u hm)⟩
      · exact bb
end
end Mi

set_option Elab.async false
set_option linter.all false
set_option maxRecDepth 100000
set_option maxHeartbeats 4000000
/-! MP: targets, iterables, comprehensions; the levels. -/
namespace Mi
open PySem PySem.Spec PyProof.Rows L2 PySem.W PySem.SeqAt

def kindNm (c : Ctx) (x : Str) : Kind := if c.own.contains x then .own else if c.share.contains x then .share else .val
/-- a name that may be stored -/
def stoOf (c : Ctx) (x : Str) : Option Nat := match c.names.lookup x with
  | some .local => c.N.idxOf? x
  | some .cell => if c.cel x then c.N.idxOf? x else none
  | _ => none
theorem sto_ok {X C k c} (h : CtxOk X C k c) {x : Str} {i : Nat} (e : stoOf c x = some i) : X.N[i]? = some x ∧ L2.Loc X.env.scope x ∧ (X.fn x = true ∨ X.env.scope.names.lookup x = some .local) := by
  unfold stoOf at e
  unfold L2.Loc
  rw [h.names, h.N]
  split at e
  · rename_i q; exact ⟨idxOf?_get e, .inl q, .inr q⟩
  · rename_i q
    split at e
    · rename_i z; exact ⟨idxOf?_get e, .inr q, .inl (h.cel x z)⟩
    · cases e
  · cases e
section
variable (d : Den) (c : Ctx)
/-- a target of names -/
def tgB (vs : Option (List Nat)) : Nat → Expr → GV → M Unit
  | 0, _ => fun _ => bad
  | n + 1, e => match e with
    | .Name x _ => (match stoOf c x with
      | some i => if (match vs with
        | none => true
        | some l => l.contains i) then gNm i (kindNm c x) else fun _ => bad
      | none => fun _ => bad)
    | .Tuple es _ _ => if es.all plainTg then gTp es.length (es.foldr (fun e r => gsCons (tgB vs n e) r) gsNil) else fun _ => bad
    | .Subscript o i _ => (match vs, varOf c o with
      | none, some v => if isSlice i then fun _ => bad else gSet v (d.E c i)
      | _, _ => fun _ => bad)
    | _ => fun _ => bad
def tgG (K : PySem.W.Frag) : Nat → Expr → TG
  | 0, _ => fun _ _ _ _ => False
  | n + 1, e => match e with
    | .Name x _ => (match stoOf c x with
      | some i => gName i
      | none => fun _ _ _ _ => False)
    | .Tuple es _ _ => if es.all plainTg then gTL K es.length (es.foldr (fun e r => gCons (tgG K n e) r) gNil) else fun _ _ _ _ => False
    | _ => fun _ _ _ _ => False
def isTup : Expr → Bool
  | .Tuple _ _ _ => true
  | _ => false
def iterE (tg iter : Expr) : M (List D) := match iter with
  | .Name x _ => (match slotP c x with
    | some i => iVar i
    | none => iVal (d.E c iter))
  | .Call (.Name x _) [a] [] _ => if x = "range" ∧ (isBlt c x && !isStar a) = true then iRange1 (d.E c a) else iVal (d.E c iter)
  | .Call (.Name x _) [a, b] [] _ => if x = "range" ∧ (isBlt c x && !isStar a && !isStar b) = true then iRange2 (d.E c a) (d.E c b) else
    if x = "zip" ∧ (isBlt c x && !isStar a && !isStar b && isTup tg) = true then iZipM (d.E c a) (d.E c b) else iVal (d.E c iter)
  | _ => iVal (d.E c iter)
def scOf (names : List (Str × NameKind)) : Scope := { kind := .function, names := names, isGenerator := false, isCoroutine := false }
def ownOf (scope : Scope) : List (Str × Nat) := scope.names.filterMap fun q => match q.2 with
  | .local => (c.N.idxOf? q.1).map (q.1, ·)
  | .cell => (c.N.idxOf? q.1).map (q.1, ·)
  | _ => none
def inner (scope : Scope) : Ctx := { c with
  names := scope.names.map fun (n, k) => if (k == NameKind.free && c.names.lookup n == some NameKind.cell) then (n, NameKind.cell) else (n, k)
  own := []
  share := []
  cel := fun x => scope.names.lookup x == some NameKind.cell }
/-- the slots of a target's names -/
def tgV : Expr → List Nat
  | .Name x _ => (c.N.idxOf? x).toList
  | .Tuple es _ _ => es.filterMap fun e => match e with
    | .Name x _ => c.N.idxOf? x
    | _ => none
  | _ => []
def ifsE : List Expr → M Bool
  | [] => tYesM
  | [e] => d.T c e
  | _ => bad
def compE (elt : Expr) (gens : List Comprehension) (scope : Scope) : M GV := match gens with
  | [⟨tg, iter, ifs, 0⟩] => if blkC c.N (scOf c.names) scope (ownOf c scope) && notSetE iter then
      cLc (iterE d c tg iter) (tgB d (inner c scope) (some ((ownOf c scope).map (·.2))) 5 tg) (ifsE d (inner c scope) ifs) (d.E (inner c scope) elt) ((ownOf c scope).map (·.2))
    else cBad
  | [⟨tg, iter, ifs, 0⟩, ⟨tg1, iter1, ifs1, 0⟩] => if blkC c.N (scOf c.names) scope (ownOf c scope) && notSetE iter && notSetE iter1 && ((tgV c tg1).all fun i => ((ownOf c scope).map (·.2)).contains i) then
      cLc2 (iterE d c tg iter) (tgB d (inner c scope) (some ((ownOf c scope).map (·.2))) 5 tg) (ifsE d (inner c scope) ifs) (iterE d (inner c scope) tg1 iter1) (tgB d (inner c scope) (some (tgV c tg1)) 5 tg1) (ifsE d (inner c scope) ifs1) (d.E (inner c scope) elt) ((ownOf c scope).map (·.2)) (tgV c tg1)
    else cBad
  | _ => cBad
end
section
variable {d : Den} {X : Cx} {C : Cn} {k : Nat} {c : Ctx}
theorem sndg_bad {tg : Expr} : SndG X C (fun _ => bad) tg := fun _ _ _ _ _ _ _ _ _ _ _ q => q.elim
theorem tgB_ok (hd : DenOk d) (h : CtxOk X C k c) : ∀ (n : Nat) (e : Expr), SndG X C (tgB d c none n e) e
  | 0, e => sndg_bad
  | n + 1, e => by
    unfold tgB
    split
    · split
      · rename_i i q
        obtain ⟨h1, h2, h3⟩ := sto_ok h q
        simp only [if_true]
        exact sndg_name h.nd h1 h2 h3
      · exact sndg_bad
    · rename_i es kk pos
      split
      · rename_i hp
        refine sndg_tup h.K h.calm hp ?_
        suffices ∀ es : List Expr, (es.all plainTg) = true → SndGs X C (es.foldr (fun e r => gsCons (tgB d c none n e) r) gsNil) es from this es hp
        intro es hp
        induction es with
        | nil => exact sndgs_nil
        | cons e es ih =>
          rw [List.all_cons, Bool.and_eq_true] at hp
          exact sndgs_cons hp.1 (tgB_ok hd h n e) (ih hp.2)
      · exact sndg_bad
    · split
      · rename_i v q
        split
        · exact sndg_bad
        · rename_i hs
          exact sndg_set (varOf_pe h q) ((hd X C k c h).1 _) (by simpa using hs)
      · exact sndg_bad
    · exact sndg_bad
theorem pg_no : PG X e (fun _ _ _ _ => False) := ⟨fun _ _ _ _ _ _ _ _ _ q => q.elim⟩
theorem gplain {e : Expr} {es : List Expr} {env : Env} (h : plainTg e = true) : assignEach (e :: es) env = (false, assign e env) :: assignEach es env := assignEach_no h
theorem tgG_ok (h : CtxOk X C k c) : ∀ (n : Nat) (e : Expr), PG X e (tgG c X.K n e)
  | 0, e => pg_no
  | n + 1, e => by
    unfold tgG
    split
    · split
      · rename_i i q
        obtain ⟨h1, h2, h3⟩ := sto_ok h q
        exact pg_name h.nd h1 h2 h3
      · exact pg_no
    · rename_i es kk pos
      split
      · rename_i hp
        refine pg_tl h.calm ?_ (assignEach_len hp) (findStar_no hp)
        suffices ∀ es : List Expr, (es.all plainTg) = true → PGs X es (es.foldr (fun e r => gCons (tgG c X.K n e) r) gNil) from this es hp
        intro es hp
        induction es with
        | nil => exact pgs_nil
        | cons e es ih =>
          rw [List.all_cons, Bool.and_eq_true] at hp
          exact pgs_cons (tgG_ok h n e) (ih hp.2) (by rw [assignEach_no hp.1]; rfl)
      · exact pg_no
    · exact pg_no
theorem bnd_bad {t : TG} {vs : List Nat} : BndOk C t (fun _ => bad) vs := fun _ _ _ _ _ _ _ _ _ _ _ q => q.elim
theorem tgB_bnd {vs : List Nat} : ∀ (n : Nat) (e : Expr), BndOk C (tgG c C.K n e) (tgB d c (some vs) n e) vs
  | 0, e => bnd_bad
  | n + 1, e => by
    have ih := fun e => tgB_bnd (vs := vs) n e
    cases e
    case Name x pos =>
      unfold tgB tgG
      dsimp only
      cases stoOf c x with
      | none => exact bnd_bad
      | some i =>
        dsimp only
        split
        · rename_i hi
          exact bnd_name (List.contains_iff_mem.mp hi)
        · exact bnd_bad
    case Tuple es kk pos =>
      unfold tgB tgG
      dsimp only
      split
      · refine bnd_tup ?_
        suffices ∀ es : List Expr, BndsOk C (es.foldr (fun e r => gCons (tgG c C.K n e) r) gNil) (es.foldr (fun e r => gsCons (tgB d c (some vs) n e) r) gsNil) vs from this es
        intro es
        induction es with
        | nil => exact bnds_nil
        | cons e es ih2 => exact bnds_cons (ih e) ih2
      · exact bnd_bad
    all_goals (unfold tgB; exact bnd_bad)
theorem iterE_ok (hd : DenOk d) (h : CtxOk X C k c) (tg iter : Expr) : SndI X C (iterE d c tg iter) tg iter := by
  have dv : ∀ e, SndI X C (iVal (d.E c e)) tg e := fun e => sndi_val h.K ((hd X C k c h).1 e)
  unfold iterE
  split
  · split
    · rename_i i q
      exact sndi_var h.K (slotP_var h q _)
    · exact dv _
  · split
    · rename_i q
      obtain ⟨e, q⟩ := q
      subst e
      rw [Bool.and_eq_true, Bool.not_eq_true'] at q
      obtain ⟨b1, b2, _⟩ := blt_of h q.1
      exact sndi_range1 b1 b2 q.2 ((hd X C k c h).1 _)
    · exact dv _
  · split
    · rename_i q
      obtain ⟨e, q⟩ := q
      subst e
      rw [Bool.and_eq_true, Bool.not_eq_true', Bool.and_eq_true, Bool.not_eq_true'] at q
      obtain ⟨b1, b2, _⟩ := blt_of h q.1.1
      exact sndi_range2 b1 b2 q.1.2 q.2 ((hd X C k c h).1 _) ((hd X C k c h).1 _)
    · split
      · rename_i q
        obtain ⟨e, q⟩ := q
        subst e
        rw [Bool.and_eq_true, Bool.and_eq_true, Bool.not_eq_true', Bool.and_eq_true, Bool.not_eq_true'] at q
        obtain ⟨b1, b2, _⟩ := blt_of h q.1.1.1
        have ht : ∃ es kk p, tg = .Tuple es kk p := by
          have z := q.2
          unfold isTup at z
          split at z
          · exact ⟨_, _, _, rfl⟩
          · cases z
        obtain ⟨es, kk, p, rfl⟩ := ht
        exact sndi_zip h.K b1 b2 q.1.1.2 q.1.2 ((hd X C k c h).1 _) ((hd X C k c h).1 _)
      · exact dv _
  · exact dv _
theorem inner_ok (h : CtxOk X C k c) {scope : Scope} {own' : List (Str × Nat)} (ok : BlkOk X.N X.env.scope scope own') (s : Shared) (H : Hp) (C' : Addr) (cl : List (Str × Addr)) (fp : List Addr) : CtxOk (blkX X scope s H C' cl fp) C k (inner c scope) where
  N := h.N
  nd := h.nd
  names := by
    show (scope.names.map fun (n, k) => if (k == NameKind.free && X.env.scope.kind == ScopeKind.function && X.env.kindOf n == some NameKind.cell) then (n, NameKind.cell) else (n, k)) = _
    unfold Env.kindOf
    rw [h.kind, h.names]
    unfold inner
    refine List.map_congr_left fun q _ => ?_
    simp only [show (ScopeKind.function == ScopeKind.function) = true from rfl, Bool.and_true]
  kind := ok.kind
  calm := h.calm
  K := h.K
  room := h.room
  defs := h.defs
  dat := h.dat
  fn := h.fn
  tab := h.tab
  blt := h.blt
  cel := fun x q => q
  kc := h.kc
  po := PassesOwn.never
theorem blk_ok (h : CtxOk X C k c) {scope : Scope} (e : blkC c.N (scOf c.names) scope (ownOf c scope) = true) : BlkOk X.N X.env.scope scope (ownOf c scope) := by
  rw [h.N]
  have z := blkOk_by e
  exact ⟨z.kind, z.uniq, z.ix, fun y hy q => by rw [h.names]; exact z.free y hy q, z.own⟩
theorem ifsE_ok (hd : DenOk d) (h : CtxOk X C k c) : ∀ ifs, SndTs X C (ifsE d c ifs) ifs
  | [] => sndts_nil
  | [e] => sndts_one ((hd X C k c h).2 e)
  | _ :: _ :: _ => fun _ _ _ _ _ _ _ _ _ q => q.elim
theorem comp_ok (hd : DenOk d) (h : CtxOk X C k c) (elt : Expr) (gens : List Comprehension) (scope : Scope) (pos : Pos) : Snd X C (compE d c elt gens scope) (.ListComp elt gens scope pos) := by
  unfold compE
  split
  · rename_i tg iter ifs
    split
    · rename_i q
      rw [Bool.and_eq_true] at q
      have ok := blk_ok h q.1
      refine snd_lc (g := tgG (inner c scope) X.K 5 tg) h.calm h.nd (iterE_ok hd h tg iter) ok (fun s H C' cl fp => tgG_ok (inner_ok h ok s H C' cl fp) 5 tg) (by rw [← h.K]; exact tgB_bnd 5 tg) (fun s H C' cl fp => ifsE_ok hd (inner_ok h ok s H C' cl fp) ifs) (fun s H C' cl fp => (hd _ C k _ (inner_ok h ok s H C' cl fp)).1 elt) ?_
      have z := q.2
      unfold notSetE at z
      exact z
    · exact snd_bad
  · rename_i tg iter ifs tg1 iter1 ifs1
    split
    · rename_i q
      rw [Bool.and_eq_true, Bool.and_eq_true, Bool.and_eq_true] at q
      obtain ⟨⟨⟨q1, q2⟩, q3⟩, q4⟩ := q
      have ok := blk_ok h q1
      exact snd_lc2 (g := tgG (inner c scope) X.K 5 tg) (g1 := tgG (inner c scope) X.K 5 tg1) h.calm h.nd (iterE_ok hd h tg iter) ok (fun i hi => List.contains_iff_mem.mp (List.all_eq_true.mp q4 i hi)) (fun s H C' cl fp => tgG_ok (inner_ok h ok s H C' cl fp) 5 tg) (by rw [← h.K]; exact tgB_bnd 5 tg) (fun s H C' cl fp => ifsE_ok hd (inner_ok h ok s H C' cl fp) ifs)
        (fun s H C' cl fp => iterE_ok hd (inner_ok h ok s H C' cl fp) tg1 iter1) (fun s H C' cl fp => tgG_ok (inner_ok h ok s H C' cl fp) 5 tg1) (by rw [← h.K]; exact tgB_bnd 5 tg1) (fun s H C' cl fp => ifsE_ok hd (inner_ok h ok s H C' cl fp) ifs1) (fun s H C' cl fp => (hd _ C k _ (inner_ok h ok s H C' cl fp)).1 elt) q2 q3
    · exact snd_bad
  · exact snd_bad
theorem set_ok (hd : DenOk d) (h : CtxOk X C k c) {i : Nat} {kd : Kind} {y : Str} {py : Pos} (elt : Expr) (gens : List Comprehension) (scope : Scope) (pos spos : Pos) (hi : X.N[i]? = some y) (hy : X.env.scope.names.lookup y = some .local) (hl : (py.line == pos.line) = true)
    (ha : (scope.names.any fun (n, k) => n == y && (k == .local || k == .cell)) = false) : SndS X C (sAsg (gNm i kd) (compE d c elt gens scope)) (.Assign [.Name y py] (.ListComp elt gens scope pos) spos) := by
  have nb : SndS X C (sAsg (gNm i kd) cBad) (.Assign [.Name y py] (.ListComp elt gens scope pos) spos) := fun _ _ _ _ _ _ _ _ _ q => q.elim
  unfold compE
  split
  · rename_i tg iter ifs
    split
    · rename_i q
      rw [Bool.and_eq_true] at q
      have ok := blk_ok h q.1
      refine snds_lc (g := tgG (inner c scope) X.K 5 tg) h.calm h.nd hi hy (sw_true h.kind hy hl ha) (iterE_ok hd h tg iter) ok (fun s H C' cl fp => tgG_ok (inner_ok h ok s H C' cl fp) 5 tg) (by rw [← h.K]; exact tgB_bnd 5 tg) (fun s H C' cl fp => ifsE_ok hd (inner_ok h ok s H C' cl fp) ifs) (fun s H C' cl fp => (hd _ C k _ (inner_ok h ok s H C' cl fp)).1 elt) ?_
      have z := q.2
      unfold notSetE at z
      exact z
    · exact nb
  · rename_i tg iter ifs tg1 iter1 ifs1
    split
    · rename_i q
      rw [Bool.and_eq_true, Bool.and_eq_true, Bool.and_eq_true] at q
      obtain ⟨⟨⟨q1, q2⟩, q3⟩, q4⟩ := q
      have ok := blk_ok h q1
      exact snds_lc2 (g := tgG (inner c scope) X.K 5 tg) (g1 := tgG (inner c scope) X.K 5 tg1) h.calm h.nd hi hy (sw_true h.kind hy hl ha) (iterE_ok hd h tg iter) ok (fun i hi => List.contains_iff_mem.mp (List.all_eq_true.mp q4 i hi)) (fun s H C' cl fp => tgG_ok (inner_ok h ok s H C' cl fp) 5 tg) (by rw [← h.K]; exact tgB_bnd 5 tg) (fun s H C' cl fp => ifsE_ok hd (inner_ok h ok s H C' cl fp) ifs)
        (fun s H C' cl fp => iterE_ok hd (inner_ok h ok s H C' cl fp) tg1 iter1) (fun s H C' cl fp => tgG_ok (inner_ok h ok s H C' cl fp) 5 tg1) (by rw [← h.K]; exact tgB_bnd 5 tg1) (fun s H C' cl fp => ifsE_ok hd (inner_ok h ok s H C' cl fp) ifs1) (fun s H C' cl fp => (hd _ C k _ (inner_ok h ok s H C' cl fp)).1 elt) q2 q3
    · exact nb
  · exact nb
end

/-! ### the levels -/
section
variable (d : Den) (c : Ctx)
def stepE : Expr → M GV
  | .Constant k _ _ => constE k
  | .Name x _ => nameE c x
  | .Tuple es _ _ => cTup (rowE d c es)
  | .List es _ => cLst (rowE d c es)
  | .BinOp a op b _ => (match binF op with
    | some f => cOp2 f (opd d c a) (opd d c b)
    | none => cBad)
  | .UnaryOp .USub a _ => cOp1 fNeg (opd d c a)
  | .UnaryOp .Not a _ => cNotM (opd d c a)
  | .BoolOp .And es _ => cAndM (es.map (d.E c))
  | .BoolOp .Or es _ => cOrM (es.map (d.E c))
  | .Compare a [op] [b] _ => cmpE d c a op b
  | .IfExp t a b _ => cIf (d.T c t) (d.E c a) (d.E c b)
  | .Subscript o i _ => subE d c o i
  | .ListComp elt gens scope _ => compE d c elt gens scope
  | .Call f args [] pos => callE d c f args pos
  | .Dict [] [] pos => if c.dts.contains (pos.line, pos.col) then cNewT else cNewK
  | _ => cBad
def stepT : Expr → M Bool
  | .UnaryOp .Not a _ => tNotM (d.T c a)
  | .BoolOp .And es _ => tAndM (es.map (d.T c))
  | .BoolOp .Or es _ => tOrM (es.map (d.T c))
  | .Compare a [op] [b] _ => tB (cmpE d c a op b)
  | e => if isPlainT e then tTru (opd d c e) else bad
end
def den : Nat → Den
  | 0 => ⟨fun _ _ => bad, fun _ _ => bad⟩
  | n + 1 => ⟨stepE (den n), stepT (den n)⟩
section
variable {d : Den} {X : Cx} {C : Cn} {k : Nat} {c : Ctx}
theorem eachE_map (hd : DenOk d) (h : CtxOk X C k c) : ∀ es : List Expr, EachE X C (es.map (d.E c)) es
  | [] => .nil
  | e :: es => .cons ((hd X C k c h).1 e) (eachE_map hd h es)
theorem eachT_map (hd : DenOk d) (h : CtxOk X C k c) : ∀ es : List Expr, EachT X C (es.map (d.T c)) es
  | [] => .nil
  | e :: es => .cons ((hd X C k c h).2 e) (eachT_map hd h es)
theorem stepE_ok (hd : DenOk d) (h : CtxOk X C k c) (e : Expr) : Snd X C (stepE d c e) e := by
  unfold stepE
  split
  · exact constE_ok
  · exact nameE_ok h _ _
  · exact snd_tup (rowE_ok hd h _)
  · exact snd_lst (rowE_ok hd h _)
  · split
    · rename_i f q
      obtain ⟨r, o1, o2⟩ := binF_ok h q
      exact snd_op2 o2 (opd_ok hd h _) (opd_ok hd h _) (pe_op o1 pe_u pe_u)
    · exact snd_bad
  · exact snd_op1 ok_neg (opd_ok hd h _) (pe_un un_neg pe_u)
  · exact snd_not h.K (opd_ok hd h _)
  · exact snd_and h.K (eachE_map hd h _)
  · exact snd_or h.K (eachE_map hd h _)
  · exact (cmpE_ok hd h _ _ _ _).1
  · exact snd_if ((hd X C k c h).2 _) ((hd X C k c h).1 _) ((hd X C k c h).1 _)
  · exact subE_ok hd h _ _ _
  · exact comp_ok hd h _ _ _ _
  · exact callE_ok hd h _ _ _
  · split
    · exact snd_newT
    · exact snd_newK
  · exact snd_bad
theorem stepT_ok (hd : DenOk d) (h : CtxOk X C k c) (e : Expr) : SndT X C (stepT d c e) e := by
  unfold stepT
  split
  · exact sndT_not ((hd X C k c h).2 _)
  · exact (sndW_and (eachT_map hd h _)).t
  · exact (sndW_or (eachT_map hd h _)).t
  · exact (cmpE_ok hd h _ _ _ _).2
  · split
    · rename_i q
      exact sndT_tru h.K (opd_ok hd h _) q
    · exact fun _ _ _ _ _ _ _ _ _ q => q.elim
theorem den_ok : ∀ n, DenOk (den n)
  | 0 => fun _ _ _ _ _ => ⟨fun _ => snd_bad, fun _ _ _ _ _ _ _ _ _ _ q => q.elim⟩
  | n + 1 => fun X C k c h => ⟨stepE_ok (den_ok n) h, stepT_ok (den_ok n) h⟩
end
end Mi

set_option Elab.async false
set_option linter.all false
set_option maxRecDepth 100000
set_option maxHeartbeats 4000000
/-! MQ: statements. -/
namespace Mi
open PySem PySem.Spec PyProof.Rows L2 PySem.W PySem.SeqAt

/-- the stores of a display to names: as the model has it -/
def swR (c : Ctx) (ts vs : List Expr) : Option (Option (List Str)) :=
  if (!(ts.length == 2 || ts.length == 3) || vs.length != ts.length) = true then some none
  else if (vs.any isStar) = true then some none
  else
    if ((ts.filterMap fun
      | .Name id pos => if c.names.lookup id == some NameKind.local && pos.line == (ts.head?.map (·.pos.line)).getD 0 then some id else none
      | _ => none).length != ts.length || (ts.filterMap fun
      | .Name id pos => if c.names.lookup id == some NameKind.local && pos.line == (ts.head?.map (·.pos.line)).getD 0 then some id else none
      | _ => none).eraseDups.length != (ts.filterMap fun
      | .Name id pos => if c.names.lookup id == some NameKind.local && pos.line == (ts.head?.map (·.pos.line)).getD 0 then some id else none
      | _ => none).length) = true then some none
    else if (vs.all (foldedForSure 8)) = true then some none
    else if (vs.all (constantsAlone 8)) = true then none
    else some (some (ts.filterMap fun
      | .Name id pos => if c.names.lookup id == some NameKind.local && pos.line == (ts.head?.map (·.pos.line)).getD 0 then some id else none
      | _ => none))
theorem swR_ok {X C k c} (h : CtxOk X C k c) {ts vs : List Expr} {r : Option (List Str)} {kt k2 : Nat} {pt p2 : Pos} (e : swR c ts vs = some r) : swappedStores [.Tuple ts kt pt] (.Tuple vs k2 p2) X.env = pure r := by
  have hb : (X.env.blockKind != .function) = false := by unfold Env.blockKind; rw [h.kind]; rfl
  have hk : ∀ x, X.env.kindOf x = c.names.lookup x := fun x => by unfold Env.kindOf; rw [h.names]
  unfold swR at e
  unfold swappedStores
  dsimp only [pure_bind]
  simp only [hb, Bool.or_false, hk]
  split at e
  · rename_i h1
    cases e
    rw [if_pos h1]
  · rename_i h1
    rw [if_neg h1]
    split at e
    · rename_i h2
      cases e
      exact if_pos h2
    · rename_i h2
      refine (if_neg h2).trans ?_
      split at e
      · rename_i h3
        cases e
        exact if_pos h3
      · rename_i h3
        refine (if_neg h3).trans ?_
        split at e
        · rename_i h4
          cases e
          exact if_pos h4
        · rename_i h4
          refine (if_neg h4).trans ?_
          split at e
          · cases e
          · rename_i h5
            cases e
            exact if_neg h5

def isListE : Expr → Bool
  | .List _ _ => true
  | _ => false
theorem swap_no {tg e : Expr} {env : Env} (h : (isTup tg && isTup e) = false) (h2 : isListE tg = false) : swappedStores [tg] e env = pure none := by
  cases tg
  case Tuple => cases e <;> first | rfl | (simp [isTup] at h)
  case List => simp [isListE] at h2
  all_goals rfl

section
variable (d : Den) (c : Ctx)
def ipF : Operator → Option (List Ob → D → D → Option GV)
  | .Add => some (fInt (fun _ _ => true) fun i j => .int (i + j))
  | .Sub => some (fInt (fun _ _ => true) fun i j => .int (i - j))
  | _ => none
def parE (ts vs : List Expr) : St' := match ts, vs with
  | [.Name x _, .Name y _], [a, b] => (match c.N.idxOf? x, c.N.idxOf? y with
    | some i, some j => if (i != j && c.names.lookup x == some .local && c.names.lookup y == some .local && !isStar a && !isStar b) = true ∧ swR c ts vs = some (some [x, y]) then
        sPar2 i (kindNm c x) j (kindNm c y) (d.E c a) (d.E c b) else sBad
    | _, _ => sBad)
  | [.Name x _, .Name y _, .Name z _], [a, b, e] => (match c.N.idxOf? x, c.N.idxOf? y, c.N.idxOf? z with
    | some i, some j, some l => if (i != j && i != l && j != l && c.names.lookup x == some .local && c.names.lookup y == some .local && c.names.lookup z == some .local && !isStar a && !isStar b && !isStar e) = true ∧ swR c ts vs = some (some [x, y, z]) then
        sPar3 i (kindNm c x) j (kindNm c y) l (kindNm c z) (d.E c a) (d.E c b) (d.E c e) else sBad
    | _, _, _ => sBad)
  | _, _ => sBad
/-- the slot and the key of d[k], d a dict by its name -/
def dputOf (tg : Expr) : Option (Nat × Expr) := match tg with
  | .Subscript (.Name x _) ix _ => if c.dvars.contains x then (slotP c x).map (·, ix) else none
  | _ => none
def setE (tg e : Expr) (line : Nat) : St' := match e with
  | .ListComp elt gens scope pos => (match tg with
    | .Name y py => (match c.names.lookup y, c.N.idxOf? y with
      | some .local, some i => if (py.line == pos.line && !(scope.names.any fun (n, k) => n == y && (k == NameKind.local || k == NameKind.cell))) = true then sAsg (gNm i (kindNm c y)) (compE d c elt gens scope) else sBad
      | _, _ => sBad)
    | _ => sBad)
  | .Tuple vs _ _ => (match tg with
    | .Tuple ts _ _ => (match swR c ts vs with
      | some none => sAsg (tgB d c none 5 tg) (d.E c e)
      | some (some _) => parE d c ts vs
      | none => sBad)
    | _ => if isListE tg || !plainTg tg then sBad else sAsg (tgB d c none 5 tg) (d.E c e))
  | _ => match dputOf c tg with
    | some (v, ix) => if isComp e then sBad else sDPutM c.kc v (d.E c e) (d.E c ix)
    | none => if isComp e || isListE tg || !plainTg tg then sBad else sAsg (tgB d c none 5 tg) (d.E c e)
def augE (tg : Expr) (op : Operator) (e : Expr) : St' := match ipF op with
  | none => sBad
  | some f => (match tg with
    | .Name x _ => (match stoOf c x with
      | some i => sAug i (kindNm c x) f (d.E c e)
      | none => sBad)
    | .Subscript o i _ => (match varOf c o with
      | some v => if isSlice i then sBad else sAugS v f (d.E c i) (d.E c e)
      | none => sBad)
    | _ => sBad)
def stepS (B : List Stmt → St') : Stmt → St'
  | .Return (some e) _ => (match varOf c e with
    | some i => sRetV i
    | none => sRet (d.E c e))
  | .Return none _ => sRetN
  | .Pass _ => sNil
  | .Break _ => sBrk
  | .Continue _ => sCnt
  | .Expr e _ => if isComp e then sBad else sDrop (d.E c e)
  | .If t a b _ => sIf (d.T c t) (B a) (B b)
  | .While t b [] _ => sWhile (d.T c t) (B b)
  | .For tg iter b [] _ => if notSetE iter then sFor (iterE d c tg iter) (tgB d c none 5 tg) (B b) else sBad
  | .Assign [tg] e p => setE d c tg e p.line
  | .Assign [t1, t2] e _ => if plainTg t1 && plainTg t2 then sAsg2 (tgB d c none 5 t1) (tgB d c none 5 t2) (d.E c e) else sBad
  | .AugAssign tg op e _ => augE d c tg op e
  | _ => sBad
end
def denB (d : Den) (c : Ctx) : Nat → List Stmt → St'
  | 0, _ => sBad
  | n + 1, sts => match sts with
    | [] => sNil
    | [st] => stepS d c (denB d c n) st
    | st :: rest => sSeq (stepS d c (denB d c n) st) (denB d c n rest)
section
variable {d : Den} {X : Cx} {C : Cn} {k : Nat} {c : Ctx}
theorem iop_ok {op : Operator} {f : List Ob → D → D → Option GV} (e : ipF op = some f) : ∃ r, OpR X (inplaceOp op) r ∧ Op2Ok C f r := by
  unfold ipF at e
  split at e <;> cases e
  · exact ⟨_, iop_add, ok_int0⟩
  · exact ⟨_, iop_sub, ok_int0⟩
theorem parE_ok (hd : DenOk d) (h : CtxOk X C k c) {ts vs : List Expr} {kt k2 : Nat} {pt p2 pos : Pos} : SndS X C (parE d c ts vs) (.Assign [.Tuple ts kt pt] (.Tuple vs k2 p2) pos) := by
  unfold parE
  split
  · rename_i x px y py a b
    split
    · rename_i i j e1 e2
      split
      · rename_i q
        obtain ⟨q, sw⟩ := q
        simp only [Bool.and_eq_true, bne_iff_ne, beq_iff_eq, Bool.not_eq_true'] at q
        obtain ⟨⟨⟨⟨q1, q2⟩, q3⟩, q4⟩, q5⟩ := q
        exact snds_par2 h.calm h.nd (by rw [h.N]; exact idxOf?_get e1) (by rw [h.N]; exact idxOf?_get e2) q1 (by rw [h.names]; exact q2) (by rw [h.names]; exact q3) q4 q5 (swR_ok h sw) ((hd X C k c h).1 _) ((hd X C k c h).1 _)
      · exact snds_bad
    · exact snds_bad
  · rename_i x px y py z pz a b e
    split
    · rename_i i j l e1 e2 e3
      split
      · rename_i q
        obtain ⟨q, sw⟩ := q
        simp only [Bool.and_eq_true, bne_iff_ne, beq_iff_eq, Bool.not_eq_true'] at q
        obtain ⟨⟨⟨⟨⟨⟨⟨⟨q1, q2⟩, q3⟩, q4⟩, q5⟩, q6⟩, q7⟩, q8⟩, q9⟩ := q
        exact snds_par3 h.calm h.nd (by rw [h.N]; exact idxOf?_get e1) (by rw [h.N]; exact idxOf?_get e2) (by rw [h.N]; exact idxOf?_get e3) q1 q2 q3 (by rw [h.names]; exact q4) (by rw [h.names]; exact q5) (by rw [h.names]; exact q6) q7 q8 q9 (swR_ok h sw) ((hd X C k c h).1 _) ((hd X C k c h).1 _) ((hd X C k c h).1 _)
      · exact snds_bad
    · exact snds_bad
  · exact snds_bad
theorem setE_ok (hd : DenOk d) (h : CtxOk X C k c) (tg e : Expr) (pos : Pos) : SndS X C (setE d c tg e pos.line) (.Assign [tg] e pos) := by
  unfold setE
  split
  · split
    · split
      · rename_i y py _ _ i e1 e2
        split
        · rename_i q
          rw [Bool.and_eq_true, Bool.not_eq_true'] at q
          exact set_ok hd h _ _ _ _ _ (by rw [h.N]; exact idxOf?_get e2) (by rw [h.names]; exact e1) q.1 q.2
        · exact snds_bad
      · exact snds_bad
    · exact snds_bad
  · split
    · split
      · rename_i e1
        exact snds_asg rfl rfl (swR_ok h e1) ((hd X C k c h).1 _) (tgB_ok hd h 5 _)
      · exact parE_ok hd h
      · exact snds_bad
    · split
      · exact snds_bad
      · rename_i n q
        simp only [Bool.or_eq_true, Bool.not_eq_true', not_or, Bool.not_eq_true, Bool.not_eq_false] at q
        refine snds_asg q.2 rfl (swap_no ?_ ?_) ((hd X C k c h).1 _) (tgB_ok hd h 5 _)
        · cases tg <;> first | rfl | exact (n _ _ _ rfl).elim
        · exact q.1
  · rename_i n1 n2
    split
    · rename_i v ix ed
      split
      · exact snds_bad
      · rename_i hcm
        have z : ∃ x p1 p2, tg = .Subscript (.Name x p1) ix p2 ∧ slotP c x = some v := by
          unfold dputOf at ed
          split at ed
          · split at ed
            · obtain ⟨v', e1, e2⟩ := Option.map_eq_some_iff.mp ed
              cases e2
              exact ⟨_, _, _, rfl, e1⟩
            · cases ed
          · cases ed
        obtain ⟨x, p1, p2, rfl, e1⟩ := z
        rw [← h.kc]
        exact snds_dput (by have := h.un; omega) (slotP_var h e1 p1) (by simpa using hcm) ((hd X C k c h).1 _) ((hd X C k c h).1 _)
    split
    · exact snds_bad
    · rename_i q
      simp only [Bool.or_eq_true, Bool.not_eq_true', not_or, Bool.not_eq_true, Bool.not_eq_false] at q
      refine snds_asg q.2 q.1.1 (swap_no ?_ ?_) ((hd X C k c h).1 _) (tgB_ok hd h 5 _)
      · cases e <;> first | (cases tg <;> rfl) | exact (n2 _ _ _ rfl).elim
      · exact q.1.2
theorem augE_ok (hd : DenOk d) (h : CtxOk X C k c) (tg : Expr) (op : Operator) (e : Expr) (pos : Pos) : SndS X C (augE d c tg op e) (.AugAssign tg op e pos) := by
  unfold augE
  split
  · exact snds_bad
  · rename_i f ef
    obtain ⟨r, o1, o2⟩ := iop_ok (X := X) (C := C) ef
    split
    · split
      · rename_i i q
        obtain ⟨h1, h2, h3⟩ := sto_ok h q
        exact snds_aug o2 o1 h.nd h1 h2 h3 ((hd X C k c h).1 _)
      · exact snds_bad
    · split
      · rename_i v q
        split
        · exact snds_bad
        · rename_i hs
          exact snds_augS o2 o1 h.K (by simpa using hs) (varOf_pe h q) ((hd X C k c h).1 _) ((hd X C k c h).1 _)
      · exact snds_bad
    · exact snds_bad
theorem stepS_ok (hd : DenOk d) (h : CtxOk X C k c) {B : List Stmt → St'} (hB : ∀ sts, SndB X C (B sts) sts) (st : Stmt) : SndS X C (stepS d c B st) st := by
  unfold stepS
  split
  · split
    · rename_i i q
      exact snds_retV (varOf_pe h q)
    · exact snds_ret ((hd X C k c h).1 _)
  · exact snds_retN
  · exact snds_pass
  · exact snds_break
  · exact snds_continue
  · split
    · exact snds_bad
    · rename_i q
      exact snds_drop (by simpa using q) ((hd X C k c h).1 _)
  · exact snds_if ((hd X C k c h).2 _) (hB _) (hB _)
  · exact snds_while h.po ((hd X C k c h).2 _) (hB _)
  · split
    · rename_i q
      exact snds_for h.po h.calm q (iterE_ok hd h _ _) (tgB_ok hd h 5 _) (hB _)
    · exact snds_bad
  · exact setE_ok hd h _ _ _
  · split
    · rename_i q
      rw [Bool.and_eq_true] at q
      exact snds_asg2 q.1 q.2 ((hd X C k c h).1 _) (tgB_ok hd h 5 _) (tgB_ok hd h 5 _)
    · exact snds_bad
  · exact augE_ok hd h _ _ _ _
  · exact snds_bad
theorem denB_ok (hd : DenOk d) (h : CtxOk X C k c) : ∀ (n : Nat) (sts : List Stmt), SndB X C (denB d c n sts) sts
  | 0, _ => fun _ _ _ _ _ _ _ _ _ q => q.elim
  | n + 1, sts => by
    unfold denB
    split
    · exact sndb_nil
    · exact sndb_one (stepS_ok hd h (denB_ok hd h n) _)
    · exact sndb_cons (stepS_ok hd h (denB_ok hd h n) _) (denB_ok hd h n _)
end
end Mi

set_option Elab.async false
set_option linter.all false
set_option maxRecDepth 100000
set_option maxHeartbeats 4000000
/-! MR: defs, levels. -/
namespace Mi
open PySem PySem.Spec PyProof.Rows L2 PySem.W PySem.SeqAt
/-- a def of the text: its parameters, body, scope, names (parameters first), the names that hold an own list, those of shared lists -/
structure Fn where
  params : Arguments
  body : List Stmt
  scope : Scope
  N : List Str
  own : List Str
  share : List Str
  dts : List (Nat × Nat) := []
  dvars : List Str := []
def Fn.ps (f : Fn) : List Str := f.params.args.map (·.arg)
structure Pg where
  fns : List Fn
  glo : List (Str × Gk)
  hand : Nat → Option (Calls → List D → List Ob → Rc)
  kc : List D → Bool
def ctxOf (p : Pg) (call : Calls) (f : Fn) : Ctx := ⟨f.N, f.scope.names, p.glo, call, f.own, f.share, fun _ => true, p.kc, f.dts, f.dvars⟩
def endRc : Fl → Rc
  | .rt g t => .ok g t.S
  | .nx t => .ok (.d .none) t.S
  | .exc x xs t => .exc x xs t.S
  | _ => .bad
def runF (p : Pg) (call : Calls) (f : Fn) (xs : List D) (S : List Ob) : Rc :=
  if xs.length = f.ps.length then endRc (denB (den 30) (ctxOf p call f) 100 f.body ⟨(xs.map fun x => some (GV.d x)) ++ List.replicate (f.N.length - xs.length) none, S⟩) else .bad
def nextC (p : Pg) (call : Calls) : Calls := fun i xs S => match p.hand i with
  | some h => h call xs S
  | none => match p.fns[i]? with
    | some f => runF p call f xs S
    | none => .bad
def callN (p : Pg) : Nat → Calls
  | 0 => fun _ _ _ => .bad
  | k + 1 => nextC p (callN p k)
/-- what a def's scope must be -/
def Fn.good (f : Fn) : Bool := (match f.scope.kind with | .function => true | _ => false) && !f.scope.isCoroutine && !f.scope.isGenerator && decide f.N.Nodup && (f.N.take f.ps.length == f.ps) &&
  (f.ps.all fun x => f.scope.names.lookup x == some .local || f.scope.names.lookup x == some .cell) && (f.scope.names.all fun y => y.2 != .free)
theorem Fn.good_of {f : Fn} (h : f.good = true) : FnScope f.N f.ps f.scope := by
  unfold Fn.good at h
  simp only [Bool.and_eq_true, Bool.not_eq_true', decide_eq_true_eq, beq_iff_eq, List.all_eq_true, Bool.or_eq_true, bne_iff_ne] at h
  obtain ⟨⟨⟨⟨⟨⟨h1, h2⟩, h3⟩, h4⟩, h6⟩, h7⟩, h8⟩ := h
  refine ⟨?_, h2, h3, h4, h6, h7, h8⟩
  split at h1
  · assumption
  · cases h1
/-- its arguments bind by place -/
def Fn.Bd (f : Fn) : Prop := ∀ (x q : Str) (kV doc pm : Value) (an : Option Addr) (cdv ct : Value) (us : List Value), us.length = f.ps.length → bindArgs (PySem.W.fnOf x q f.params f.body f.scope .none kV doc pm an cdv ct) ⟨us, []⟩ = pure (f.ps.zip us)
/-- what the module is -/
structure Lay (P : Program) (w : World) (K : PySem.W.Frag) (mg : Str → Option Value) (C : Cn) (p : Pg) : Prop where
  frag : C.K = K
  kc : C.kc = p.kc
  dat : ∀ x d, p.glo.lookup x = some (.dat d) → ∃ u v, mg x = some u ∧ RelV v u ∧ Rp C (fun _ => none) [] v d
  fn : ∀ x i, p.glo.lookup x = some (.fn i) → ∃ a, mg x = some (.ref a) ∧ C.fa i = some a
  tab : ∀ x t, p.glo.lookup x = some (.tab t) → ∃ a, mg x = some (.ref a) ∧ ∀ z y, t.lookup z = some y → ∃ v, KDct K w a z v ∧ Rp C (fun _ => none) [] v y
  blt : ∀ x, bltNames.contains x = true → mg x = none
  fns : ∀ i a, C.fa i = some a → p.hand i = none → ∃ f x q fd, p.fns[i]? = some f ∧ f.good = true ∧ f.Bd ∧ FunD K x q f.params f.body f.scope [] [] a fd
section
variable {P : Program} {w : World} {K : PySem.W.Frag} {mg : Str → Option Value} {base : Heap} {C : Cn} {p : Pg}
theorem zip_slots : ∀ {vs : List V} {xs : List D} {n : Nat}, vs.length = xs.length → Slots (vs.map some ++ List.replicate n none) ((xs.map fun x => some (GV.d x)) ++ List.replicate n none) (vs.zip (xs.map GV.d))
  | [], [], 0, _ => .nil
  | [], [], n + 1, _ => by
    rw [List.replicate_succ, List.replicate_succ]
    exact .no (zip_slots (vs := []) (xs := []) rfl)
  | v :: vs, x :: xs, n, h => .yes (zip_slots (by simpa using h))
  | [], _ :: _, _, h => by simp at h
  | _ :: _, [], _, h => by simp at h
theorem ctx_ok (L : Lay P w K mg C p) {call : Calls} {k : Nat} (A : ∀ i a, C.fa i = some a → ∃ n fd ps, Def P w K mg base C call k i n a fd ps) {f : Fn} (g : FnScope f.N f.ps f.scope) {q : Str} {a : Addr} {cdv : Value} {Ar : Around} {outer : List Env} {s : Shared} {H : Hp} {E : XK}
    (hr : Room k (Ar.deeper (envOfC q f.scope s.heap.objs.size a cdv))) : CtxOk (cxOf CX0 P w K mg base f.N q f.scope a cdv Ar outer s H E).nox C k (ctxOf p call f) where
  N := rfl
  nd := g.nd
  names := rfl
  kind := g.kind
  calm := rfl
  K := L.frag
  room := hr
  defs := A
  dat := L.dat
  fn := L.fn
  tab := L.tab
  blt := L.blt
  cel := fun _ _ => rfl
  kc := L.kc
  po := PassesOwn.never
theorem runF_ok (L : Lay P w K mg C p) {call : Calls} {k : Nat} (A : ∀ i a, C.fa i = some a → ∃ n fd ps, Def P w K mg base C call k i n a fd ps) {f : Fn} (g : f.good = true) (bd : f.Bd) {x q : Str} {a : Addr} {fd : FuncData} (F : FunD K x q f.params f.body f.scope [] [] a fd) {i : Nat} (ha : C.fa i = some a) {call' : Calls} (hc : ∀ xs S, call' i xs S = runF p call f xs S) :
    Def P w K mg base C call' (k + 1) i f.ps.length a fd f.ps where
  at_ := ha
  kp := F.kp
  b := F.bindsN fun kV doc pm an cdv ct us hl => bd x q kV doc pm an cdv ct us hl
  ar := fun xs S ⟨g', S', e⟩ => by
    rw [hc] at e
    unfold runF at e
    split at e
    · assumption
    · cases e
  ok := by
    have sc := Fn.good_of g
    refine F.ok sc (fun vs H Q E h => ?_) fun cdv Ar outer s H vs Q E hr h => ?_
    · obtain ⟨_, _, _, h, _⟩ := h
      exact h
    · obtain ⟨S, τ, xs, h1, h2, h3, h4⟩ := h
      have cok := ctx_ok (base := base) L A sc (q := q) (a := a) (cdv := cdv) (outer := outer) (s := s) (H := H) (E := E) hr
      refine ⟨USs _ f.body, PSs.nox pss_u, ?_⟩
      rw [hc] at h4
      unfold runF at h4
      rw [if_pos h2] at h4
      have hs : L2.start f.N vs = vs.map some ++ List.replicate (f.N.length - xs.length) none := by
        unfold L2.start
        rw [h1, h2]
      rw [hs]
      refine denB_ok (den_ok 30) cok 100 f.body _ _ S (vs.zip (xs.map GV.d)) τ H _ (zip_slots (by rw [h1, h2])) h3 ?_
      generalize denB (den 30) (ctxOf p call f) 100 f.body _ = r at h4
      cases r with
      | nx t => exact fun σ' H' τρ' _ hs' => h4 .non H' (Sim.non (hs'.right))
      | rt g' t => exact fun v H' hs' => h4 v H' hs'
      | bk => exact h4.elim
      | ct => exact h4.elim
      | exc => exact h4.elim
      | bad => exact h4.elim
theorem def0 {i : Nat} {a : Addr} {fd : FuncData} {ps : List Str} (ha : C.fa i = some a) (kp : PySem.W.keepIn K (.ref a) = true) (b : Binds K fd ps []) : Def P w K mg base C (callN p 0) 0 i ps.length a fd ps where
  at_ := ha
  kp := kp
  b := b
  ar := fun xs S ⟨g', S', e⟩ => by cases e
  ok := ⟨fun vs H Q E h => by obtain ⟨_, _, _, h, _⟩ := h; exact h, fun _ _ _ _ _ _ _ _ _ _ _ _ _ h => by obtain ⟨_, _, _, _, _, _, h⟩ := h; exact h.elim⟩
/-- every def, at every level -/
theorem all_defs (L : Lay P w K mg C p) (Hd : ∀ k, (∀ i a, C.fa i = some a → ∃ n fd ps, Def P w K mg base C (callN p k) k i n a fd ps) → ∀ i a h, C.fa i = some a → p.hand i = some h → ∃ n fd ps, Def P w K mg base C (callN p (k + 1)) (k + 1) i n a fd ps)
    (H0 : ∀ i a h, C.fa i = some a → p.hand i = some h → ∃ n fd ps, Def P w K mg base C (callN p 0) 0 i n a fd ps) : ∀ k i a, C.fa i = some a → ∃ n fd ps, Def P w K mg base C (callN p k) k i n a fd ps
  | 0, i, a, ha => by
    cases e : p.hand i with
    | some h => exact H0 i a h ha e
    | none =>
      obtain ⟨f, x, q, fd, e1, g, bd, F⟩ := L.fns i a ha e
      exact ⟨_, fd, f.ps, def0 ha F.kp (F.bindsN fun kV doc pm an cdv ct us hl => bd x q kV doc pm an cdv ct us hl)⟩
  | k + 1, i, a, ha => by
    have A := all_defs L Hd H0 k
    cases e : p.hand i with
    | some h => exact Hd k A i a h ha e
    | none =>
      obtain ⟨f, x, q, fd, e1, g, bd, F⟩ := L.fns i a ha e
      refine ⟨_, fd, f.ps, runF_ok L A g bd F ha fun xs S => ?_⟩
      show nextC p (callN p k) i xs S = _
      unfold nextC
      rw [e, e1]
end
end Mi

set_option Elab.async false
set_option linter.all false
set_option maxRecDepth 100000
set_option maxHeartbeats 4000000
/-! MS: from the head's facts to what the module is. -/
namespace Mi
open PySem PySem.Spec PyProof.Rows L2 PySem.W PySem.SeqAt
mutual
/-- the value u of the written part stands for d -/
def cstB (fa : Nat → Option Addr) (kc : List D → Bool) (K : PySem.W.Frag) : D → Value → Bool
  | .none, .none => true
  | .bool b, .bool c => b == c
  | .int i, .int j _ => decide (i = j)
  | .str x, .str y _ => decide (x = y)
  | .tuple xs, .ref a => (match K.lookup a with
    | some ⟨.type c, _, .seq its _, _⟩ => decide (c = "tuple") && (decide (its.size ≤ sizeLine) && (kc xs && cstL fa kc K xs its.toList))
    | _ => false)
  | .dict [(.none, .int n)], .ref a => decide (0 ≤ n) && decide (fa n.toNat = some a)
  | _, _ => false
def cstL (fa : Nat → Option Addr) (kc : List D → Bool) (K : PySem.W.Frag) : List D → List Value → Bool
  | [], [] => true
  | x :: xs, u :: us => cstB fa kc K x u && cstL fa kc K xs us
  | _, _ => false
end
section
variable {fa : Nat → Option Addr} {kc : List D → Bool} {K : PySem.W.Frag}
theorem cstB_dict (kvs : List (D × D)) (u : Value) (h : cstB fa kc K (.dict kvs) u = true) : ∃ v, RelV v u ∧ Rp ⟨K, fa, kc⟩ (fun _ => none) [] v (.dict kvs) := by
  unfold cstB at h
  split at h
  all_goals (try cases h)
  all_goals (try (rename_i q; cases q))
  rename_i n a
  rw [Bool.and_eq_true, decide_eq_true_eq, decide_eq_true_eq] at h
  obtain ⟨h1, h2⟩ := h
  have z : (n.toNat : Int) = n := Int.toNat_of_nonneg h1
  refine ⟨.ref a, rfl, ?_⟩
  rw [← z]
  exact .fn h2
mutual
theorem cstB_ok : ∀ (d : D) (u : Value), cstB fa kc K d u = true → ∃ v, RelV v u ∧ Rp ⟨K, fa, kc⟩ (fun _ => none) [] v d
  | .none, u, h => by
    cases u <;> simp [cstB] at h
    exact ⟨.non, rfl, .non⟩
  | .bool b, u, h => by
    cases u <;> simp [cstB] at h
    subst h
    exact ⟨.bl b, rfl, .bl b⟩
  | .int i, u, h => by
    cases u <;> simp [cstB] at h
    subst h
    exact ⟨.int i, ⟨_, rfl⟩, .int i⟩
  | .str x, u, h => by
    cases u <;> simp [cstB] at h
    subst h
    exact ⟨.str x, ⟨_, rfl⟩, .str x⟩
  | .tuple xs, u, h => by
    cases u with
    | ref a =>
      have h' : (match K.lookup a with
        | some ⟨.type c, _, .seq its _, _⟩ => decide (c = "tuple") && (decide (its.size ≤ sizeLine) && (kc xs && cstL fa kc K xs its.toList))
        | _ => false) = true := by rw [cstB] at h; exact h
      split at h'
      · rename_i c od its n sl q
        simp only [Bool.and_eq_true, decide_eq_true_eq] at h'
        obtain ⟨h1, h2, h3, h4⟩ := h'
        obtain ⟨vs, r1, r2⟩ := cstL_ok xs its.toList h4
        subst h1
        exact ⟨.ref a, rfl, .tup (.inr ⟨_, its, n, q, rfl, rfl, h2, r1⟩) (.inr h3) r2⟩
      · cases h'
    | _ => simp [cstB] at h
  | .list xs, u, h => by cases u <;> simp [cstB] at h
  | .dict kvs, u, h => cstB_dict kvs u h
theorem cstL_ok : ∀ (xs : List D) (us : List Value), cstL fa kc K xs us = true → ∃ vs, Vals vs us ∧ RpL ⟨K, fa, kc⟩ (fun _ => none) [] vs xs
  | [], us, h => by
    cases us with
    | nil => exact ⟨[], .nil, .nil⟩
    | cons => simp [cstL] at h
  | x :: xs, us, h => by
    cases us with
    | nil => simp [cstL] at h
    | cons u us =>
      rw [cstL, Bool.and_eq_true] at h
      obtain ⟨v, r1, r2⟩ := cstB_ok x u h.1
      obtain ⟨vs, r3, r4⟩ := cstL_ok xs us h.2
      exact ⟨v :: vs, .cons r1 r3, .cons r2 r4⟩
end
end
/-- the address of def n, by its name -/
def faM (K : PySem.W.Frag) (nm : List Str) (n : Nat) : Option Addr := (nm[n]?).map fun x => He.ga K x
def gloB (fa : Nat → Option Addr) (kc : List D → Bool) (K : PySem.W.Frag) (q : Str × Gk) : Bool := match q.2 with
  | .dat d => (match PySem.W.nsIn K mainGlobals q.1 with
    | some (some u) => cstB fa kc K d u
    | _ => false)
  | .fn i => (match PySem.W.nsIn K mainGlobals q.1 with
    | some (some (.ref a)) => decide (fa i = some a)
    | _ => false)
  | .tab t => (match PySem.W.nsIn K mainGlobals q.1 with
    | some (some (.ref a)) => decide (a = He.ga K q.1) && t.all fun z => (match PySem.W.nsIn K a z.1 with
      | some (some u) => cstB fa kc K z.2 u
      | _ => false)
    | _ => false)
def exM (nm : List Str) (p : Pg) (K : PySem.W.Frag) : Bool := p.glo.all (gloB (faM K nm) p.kc K)
def tabsM : List (Str × Gk) → List He.Tab
  | [] => []
  | (x, .tab t) :: r => ((fun K => He.ga K x), t.map (·.1)) :: tabsM r
  | _ :: r => tabsM r
def defsM (nm : List Str) (p : Pg) : List He.DefD := (nm.zip p.fns).map fun q => ⟨(q.1, none), q.1, q.1, q.2.params, q.2.body, q.2.scope, [], []⟩
def freeM : List He.Fa := bltNames.map He.Fa.free
def SaysM (nm : List Str) (p : Pg) (w : World) (K : PySem.W.Frag) : Prop := He.SaysT freeM (defsM nm p) (tabsM p.glo) w K ∧ exM nm p K = true
def obM (n : Nat) (nm : List Str) (p : Pg) (g : Addr → Option Obj) : He.AlT × Bool := (He.obsTG n freeM (defsM nm p) (tabsM p.glo) g, exM nm p (He.frG g (He.asD g n)))
def valM (nm : List Str) (p : Pg) (w : World) : He.AlT × Bool := (He.valT (defsM nm p) (tabsM p.glo) w, true)
def hookM (n : Nat) (nm : List Str) (p : Pg) : PySem.W.Hook where
  α := He.AlT × Bool
  obs := fun s => obM n nm p s.heap.get?
  val := fun w => valM nm p w
  says := fun w h => ∃ K : PySem.W.Frag, K.In h ∧ SaysM nm p w K
  of := fun _ _ e => ⟨_, He.frG_in, congrArg Prod.fst e, congrArg Prod.snd e⟩
  keeps := fun _ _ _ ⟨K, hK, c⟩ k => ⟨K, PySem.W.Frag.In.keeps hK k, c⟩
theorem obM_eq {n : Nat} {nm : List Str} {p : Pg} {g : Addr → Option Obj} {s : Shared} (h : ∀ a, g a = s.heap.get? a) : obM n nm p g = (hookM n nm p).obs s := by
  have e : g = s.heap.get? := funext h
  rw [e] <;> rfl
theorem mem_of_lookup {α : Type} {x : Str} {y : α} : ∀ {l : List (Str × α)}, l.lookup x = some y → (x, y) ∈ l
  | [], h => by cases h
  | (z, w) :: l, h => by
    rw [List.lookup_cons] at h
    split at h
    · rename_i e
      cases h
      rw [eq_of_beq e]
      exact List.mem_cons_self ..
    · exact List.mem_cons_of_mem _ (mem_of_lookup h)
theorem tabsM_mem {x : Str} {t : List (Str × D)} : ∀ {l : List (Str × Gk)}, (x, Gk.tab t) ∈ l → ((fun K => He.ga K x), t.map (·.1)) ∈ tabsM l
  | [], h => by cases h
  | (y, .tab u) :: r, h => by
    unfold tabsM
    rcases List.mem_cons.mp h with h | h
    · cases h; exact List.mem_cons_self ..
    · exact List.mem_cons_of_mem _ (tabsM_mem h)
  | (y, .dat u) :: r, h => by
    unfold tabsM
    rcases List.mem_cons.mp h with h | h
    · cases h
    · exact tabsM_mem h
  | (y, .fn u) :: r, h => by
    unfold tabsM
    rcases List.mem_cons.mp h with h | h
    · cases h
    · exact tabsM_mem h
theorem lay_of {P : Program} {w : World} {K : PySem.W.Frag} {h : Heap} {mg : Str → Option Value} {nm : List Str} {p : Pg} (X : K.In h) (G : h.Ns mainGlobals mg) (c : SaysM nm p w K)
    (hl : nm.length = p.fns.length) (hg : ∀ f ∈ p.fns, f.good = true) (hb : ∀ f ∈ p.fns, f.Bd) : Lay P w K mg ⟨K, faM K nm, p.kc⟩ p where
  frag := rfl
  kc := rfl
  dat := fun x d e => by
    have z := List.all_eq_true.mp c.2 _ (mem_of_lookup e)
    unfold gloB at z
    dsimp only at z
    split at z
    · rename_i u q
      obtain ⟨v, r1, r2⟩ := cstB_ok d u z
      exact ⟨u, v, PySem.W.mg_of X G q, r1, r2⟩
    · cases z
  fn := fun x i e => by
    have z := List.all_eq_true.mp c.2 _ (mem_of_lookup e)
    unfold gloB at z
    dsimp only at z
    split at z
    · rename_i a q
      exact ⟨a, PySem.W.mg_of X G q, of_decide_eq_true z⟩
    · cases z
  tab := fun x t e => by
    have hm := mem_of_lookup e
    have z := List.all_eq_true.mp c.2 _ hm
    unfold gloB at z
    dsimp only at z
    split at z
    · rename_i a q
      rw [Bool.and_eq_true, decide_eq_true_eq] at z
      obtain ⟨z1, z2⟩ := z
      have e2 : (tabsM p.glo).map (fun t => He.dicW K (t.1 K)) = (tabsM p.glo).map fun t => some (He.keysIn w.params t.2) := congrArg (fun z : He.AlT => z.2) c.1
      have e3 := List.map_inj_left.mp e2 _ (tabsM_mem hm)
      obtain ⟨es, n, kd⟩ := He.dicW_ok e3
      refine ⟨a, PySem.W.mg_of X G q, fun k y ek => ?_⟩
      have z3 := List.all_eq_true.mp z2 _ (mem_of_lookup ek)
      dsimp only at z3
      split at z3
      · rename_i u qu
        obtain ⟨v, r1, r2⟩ := cstB_ok y u z3
        have kd1 := kd.at_
        dsimp only at kd1
        rw [← z1] at kd1
        exact ⟨v, ⟨es, n, u, kd1, kd.lit, qu, r1⟩, r2⟩
      · cases z3
    · cases z
  blt := fun x hx => by
    have hd : He.SaysD freeM (defsM nm p) K := c.1.d
    have c1 := (He.ba (show ((freeM.all fun f => f.ok K) && (defsM nm p).all fun d => d.ok K) = true from congrArg (fun z : He.AlD => z.1) hd)).1
    exact He.free_ok X G (List.all_eq_true.mp c1 (.free x) (List.mem_map_of_mem (List.contains_iff_mem.mp hx)))
  fns := fun i a e _ => by
    have hd : He.SaysD freeM (defsM nm p) K := c.1.d
    obtain ⟨x, e1, e2⟩ := Option.map_eq_some_iff.mp (show (nm[i]?).map (fun x => He.ga K x) = some a from e)
    obtain ⟨hi, e3⟩ := List.getElem?_eq_some_iff.mp e1
    have e4 : p.fns[i]? = some (p.fns[i]'(by omega)) := List.getElem?_eq_getElem _
    have e5 : (defsM nm p)[i]? = some ⟨(x, none), x, x, (p.fns[i]'(by omega)).params, (p.fns[i]'(by omega)).body, (p.fns[i]'(by omega)).scope, [], []⟩ := by
      unfold defsM
      rw [List.getElem?_map, show (nm.zip p.fns)[i]? = some (x, p.fns[i]'(by omega)) from List.getElem?_zip_eq_some.mpr ⟨e1, e4⟩]
      rfl
    obtain ⟨fd, F⟩ := hd.def_ i e5
    have hm : (p.fns[i]'(by omega)) ∈ p.fns := List.getElem_mem _
    subst e2
    exact ⟨_, x, x, fd, e4, hg _ hm, hb _ hm, F⟩
end Mi

set_option Elab.async false
set_option linter.all false
set_option maxRecDepth 100000
set_option maxHeartbeats 4000000
/-! KA: the defs of k03 (printed by gen_k03.py). -/
namespace K03
open PySem PySem.Spec L2 Mi
abbrev P := PySem.Challenge.pw_scaledcode_k03_intervals_terms_and_rows
def at_ (i : Nat) : Stmt := P.main.body.getD i (.Pass ⟨0, 0, 0, 0⟩)
abbrev fAdd' : List Ob → D → D → Option GV := fInt (fun _ _ => true) fun i j => .int (i + j)
abbrev fSub' : List Ob → D → D → Option GV := fInt (fun _ _ => true) fun i j => .int (i - j)
def z01 : D := .tuple [.int 0, .int 1]
def z11 : D := .tuple [.int 1, .int 1]
def kc : List D → Bool
  | [.int _, .int _] => true
  | _ => false
def consts : List (Str × Gk) := [("ZERO_fractions", .dat z01), ("ONE_fractions", .dat z11), ("ZERO_ranges", .dat z01), ("ONE_ranges", .dat z11), ("MOST_WEIGHT", .dat (.int 300)), ("MOST_CORNERS", .dat (.int 3000)),
  ("INPUT", .dat (.str "input")), ("STATE", .dat (.str "state")), ("LEAST", .dat (.str "least")), ("MOST", .dat (.str "most")), ("PICK", .dat (.str "pick")),
  ("SPANS", .tab [("add", dFn 12), ("sub", dFn 13), ("least", dFn 15), ("most", dFn 16)])]
def glo0 : List (Str × Gk) := [("common", .fn 0), ("made", .fn 1), ("plus", .fn 2), ("minus", .fn 3), ("times", .fn 4), ("size", .fn 5), ("is_less", .fn 6), ("lesser", .fn 7), ("greater", .fn 8), ("two_to", .fn 9), ("point", .fn 10), ("span", .fn 11), ("plus_span", .fn 12), ("minus_span", .fn 13), ("times_span", .fn 14), ("least_span", .fn 15), ("most_span", .fn 16), ("joined_span", .fn 17), ("power_span", .fn 18), ("holds", .fn 19), ("is_inside", .fn 20), ("far_of", .fn 21), ("wide_of", .fn 22), ("wider", .fn 23), ("part_of", .fn 24), ("atom_weight", .fn 25), ("weight_of", .fn 26), ("checked_term", .fn 27), ("from_list", .fn 28), ("number_term", .fn 29)]
def glo1 : List (Str × Gk) := [("atom_term", .fn 30), ("input_term", .fn 31), ("state_term", .fn 32), ("number_of", .fn 33), ("plus_term", .fn 34), ("scaled_term", .fn 35), ("minus_term", .fn 36), ("times_monomial", .fn 37), ("times_term", .fn 38), ("pick_term", .fn 39), ("ordered_term", .fn 40), ("least_term", .fn 41), ("most_term", .fn 42), ("atom_value", .fn 43), ("term_value", .fn 44), ("monomial_span", .fn 45), ("term_span", .fn 46), ("pick_span", .fn 47), ("atom_span", .fn 48), ("parts_of", .fn 49), ("atoms_in", .fn 50), ("corners", .fn 51), ("with_end", .fn 52), ("corner_span", .fn 53), ("unit", .fn 54), ("span_of", .fn 55), ("sum_row", .fn 56), ("mul_row", .fn 57), ("chosen_row", .fn 58), ("apart", .fn 59)]
def glo2 : List (Str × Gk) := [("pick_row", .fn 60), ("_law_bag", .fn 61), ("_law_take", .fn 62), ("_law_some", .fn 63), ("_law_alike", .fn 64), ("_law_made", .fn 65), ("_law_add", .fn 66), ("_law_sub", .fn 67), ("_law_mul", .fn 68), ("_law_less", .fn 69), ("_law_abs", .fn 70), ("_law_lesser", .fn 71), ("_law_greater", .fn 72), ("_law_two", .fn 73), ("_law_span_mul", .fn 74), ("_law_far", .fn 75), ("_law_pick_rule", .fn 76), ("_law_part", .fn 77), ("_law_span", .fn 78), ("_law_inside", .fn 79), ("_law_least_of", .fn 80), ("_law_power", .fn 81), ("_law_power_span", .fn 82), ("_law_holds", .fn 83), ("_law_four", .fn 84), ("_law_spans_good", .fn 85), ("_law_parts_good", .fn 86), ("_law_picked", .fn 87), ("_law_terms_good", .fn 88), ("_law_rows_good", .fn 89)]
def glo3 : List (Str × Gk) := [("law", .fn 90)]
def glo : List (Str × Gk) := consts ++ (glo0 ++ glo1 ++ glo2 ++ glo3)
def F0 : Fn := ⟨defArgs (at_ 4), defBody (at_ 4), defScope (at_ 4), ["one", "other"], [], [], [], []⟩
def F1 : Fn := ⟨defArgs (at_ 8), defBody (at_ 8), defScope (at_ 8), ["over", "under", "part"], ["part"], [], [], []⟩
def F2 : Fn := ⟨defArgs (at_ 9), defBody (at_ 9), defScope (at_ 9), ["one", "other"], [], [], [], []⟩
def F3 : Fn := ⟨defArgs (at_ 10), defBody (at_ 10), defScope (at_ 10), ["one", "other"], [], [], [], []⟩
def F4 : Fn := ⟨defArgs (at_ 11), defBody (at_ 11), defScope (at_ 11), ["one", "other"], [], [], [], []⟩
def F5 : Fn := ⟨defArgs (at_ 12), defBody (at_ 12), defScope (at_ 12), ["one"], [], [], [], []⟩
def F6 : Fn := ⟨defArgs (at_ 13), defBody (at_ 13), defScope (at_ 13), ["one", "other"], [], [], [], []⟩
def F7 : Fn := ⟨defArgs (at_ 14), defBody (at_ 14), defScope (at_ 14), ["one", "other"], [], [], [], []⟩
def F8 : Fn := ⟨defArgs (at_ 15), defBody (at_ 15), defScope (at_ 15), ["one", "other"], [], [], [], []⟩
def F9 : Fn := ⟨defArgs (at_ 16), defBody (at_ 16), defScope (at_ 16), ["scale"], [], [], [], []⟩
def F10 : Fn := ⟨defArgs (at_ 18), defBody (at_ 18), defScope (at_ 18), ["one"], [], [], [], []⟩
def F11 : Fn := ⟨defArgs (at_ 19), defBody (at_ 19), defScope (at_ 19), ["some", "low", "high", "one"], ["low", "high", "one"], [], [], []⟩
def F12 : Fn := ⟨defArgs (at_ 20), defBody (at_ 20), defScope (at_ 20), ["one", "other"], [], [], [], []⟩
def F13 : Fn := ⟨defArgs (at_ 21), defBody (at_ 21), defScope (at_ 21), ["one", "other"], [], [], [], []⟩
def F14 : Fn := ⟨defArgs (at_ 22), defBody (at_ 22), defScope (at_ 22), ["one", "other", ".0", "mine", "its"], [], [], [], []⟩
def F15 : Fn := ⟨defArgs (at_ 23), defBody (at_ 23), defScope (at_ 23), ["one", "other"], [], [], [], []⟩
def F16 : Fn := ⟨defArgs (at_ 24), defBody (at_ 24), defScope (at_ 24), ["one", "other"], [], [], [], []⟩
def F17 : Fn := ⟨defArgs (at_ 25), defBody (at_ 25), defScope (at_ 25), ["one", "other"], [], [], [], []⟩
def F18 : Fn := ⟨defArgs (at_ 26), defBody (at_ 26), defScope (at_ 26), ["one", "power", "found", "low", "high", "turn", "far", "near"], ["found", "low", "high", "turn", "far", "near"], [], [], []⟩
def F19 : Fn := ⟨defArgs (at_ 27), defBody (at_ 27), defScope (at_ 27), ["one", "number"], [], [], [], []⟩
def F20 : Fn := ⟨defArgs (at_ 28), defBody (at_ 28), defScope (at_ 28), ["one", "other"], [], [], [], []⟩
def F21 : Fn := ⟨defArgs (at_ 29), defBody (at_ 29), defScope (at_ 29), ["one"], [], [], [], []⟩
def F22 : Fn := ⟨defArgs (at_ 30), defBody (at_ 30), defScope (at_ 30), ["one"], [], [], [], []⟩
def F23 : Fn := ⟨defArgs (at_ 31), defBody (at_ 31), defScope (at_ 31), ["one", "error"], [], [], [], []⟩
def F24 : Fn := ⟨defArgs (at_ 32), defBody (at_ 32), defScope (at_ 32), ["one", "parts", "index", "low"], ["low"], [], [], []⟩
def F25 : Fn := ⟨defArgs (at_ 40), defBody (at_ 40), defScope (at_ 40), ["atom", ".0", "term"], [], [], [], []⟩
def F26 : Fn := ⟨defArgs (at_ 41), defBody (at_ 41), defScope (at_ 41), ["term", ".0", "monomial", "factor", "atom", "power"], [], [], [], []⟩
def F27 : Fn := ⟨defArgs (at_ 42), defBody (at_ 42), defScope (at_ 42), ["term"], [], [], [], []⟩
def F28 : Fn := ⟨defArgs (at_ 43), defBody (at_ 43), defScope (at_ 43), ["some", "found", "monomial", "factor", ".0"], ["found", "monomial", "factor"], [], [], []⟩
def F29 : Fn := ⟨defArgs (at_ 44), defBody (at_ 44), defScope (at_ 44), ["number"], [], [], [], []⟩
def F30 : Fn := ⟨defArgs (at_ 45), defBody (at_ 45), defScope (at_ 45), ["atom"], [], [], [], []⟩
def F31 : Fn := ⟨defArgs (at_ 46), defBody (at_ 46), defScope (at_ 46), ["index"], [], [], [], []⟩
def F32 : Fn := ⟨defArgs (at_ 47), defBody (at_ 47), defScope (at_ 47), ["index"], [], [], [], []⟩
def F33 : Fn := ⟨defArgs (at_ 48), defBody (at_ 48), defScope (at_ 48), ["term"], [], [], [], []⟩
def F34 : Fn := ⟨defArgs (at_ 49), defBody (at_ 49), defScope (at_ 49), ["one", "other"], [], [], [], []⟩
def F35 : Fn := ⟨defArgs (at_ 50), defBody (at_ 50), defScope (at_ 50), ["term", "number", ".0", "monomial", "factor"], [], [], [], []⟩
def F36 : Fn := ⟨defArgs (at_ 51), defBody (at_ 51), defScope (at_ 51), ["one", "other"], [], [], [], []⟩
def F37 : Fn := ⟨defArgs (at_ 52), defBody (at_ 52), defScope (at_ 52), ["one", "other", "found", "atom", "power"], ["found", "atom", "power"], [], [], []⟩
def F38 : Fn := ⟨defArgs (at_ 53), defBody (at_ 53), defScope (at_ 53), ["one", "other", "found", "mine", "factor", ".0", "its", "its_factor"], ["found", "mine", "factor"], [], [], []⟩
def F39 : Fn := ⟨defArgs (at_ 54), defBody (at_ 54), defScope (at_ 54), ["difference", "one", "other", "number"], ["number"], [], [], []⟩
def F40 : Fn := ⟨defArgs (at_ 55), defBody (at_ 55), defScope (at_ 55), ["word", "one", "other", "number"], ["number"], [], [], []⟩
def F41 : Fn := ⟨defArgs (at_ 56), defBody (at_ 56), defScope (at_ 56), ["one", "other"], [], [], [], []⟩
def F42 : Fn := ⟨defArgs (at_ 57), defBody (at_ 57), defScope (at_ 57), ["one", "other"], [], [], [], []⟩
def F43 : Fn := ⟨defArgs (at_ 58), defBody (at_ 58), defScope (at_ 58), ["atom", "inputs", "states", "first", "second"], ["first", "second"], [], [], []⟩
def F44 : Fn := ⟨defArgs (at_ 59), defBody (at_ 59), defScope (at_ 59), ["term", "inputs", "states", "found", "monomial", "factor", "atom", "power", "number", "turn"], ["found", "monomial", "factor", "atom", "power", "number", "turn"], [], [], []⟩
def F45 : Fn := ⟨defArgs (at_ 63), defBody (at_ 63), defScope (at_ 63), ["monomial", "input_spans", "state_spans", "found", "atom", "power"], ["found", "atom", "power"], [], [], []⟩
def F46 : Fn := ⟨defArgs (at_ 64), defBody (at_ 64), defScope (at_ 64), ["term", "input_spans", "state_spans", "found", "monomial", "factor"], ["found", "monomial", "factor"], [], [], []⟩
def F47 : Fn := ⟨defArgs (at_ 65), defBody (at_ 65), defScope (at_ 65), ["spans", "difference", "one", "other"], ["difference", "one", "other"], [], [], []⟩
def F48 : Fn := ⟨defArgs (at_ 66), defBody (at_ 66), defScope (at_ 66), ["atom", "input_spans", "state_spans", "spans", ".0", "term"], ["spans"], [], [], []⟩
def F49 : Fn := ⟨defArgs (at_ 68), defBody (at_ 68), defScope (at_ 68), ["atom"], [], [], [], []⟩
def F50 : Fn := ⟨defArgs (at_ 69), defBody (at_ 69), defScope (at_ 69), ["term", "found", "line", "monomial", "factor", "atom", "power"], ["found", "line", "monomial", "factor", "atom", "power"], [], [(207, 19)], ["found"]⟩
def F51 : Fn := ⟨defArgs (at_ 72), defBody (at_ 72), defScope (at_ 72), ["term", "input_spans", "state_spans", "atoms", "found", "many", "turn", "word", "index", "longer", "inputs", "states", "end", ".0", "one"], ["atoms", "found", "many", "turn", "word", "index", "longer", "inputs", "states", "end"], [], [], []⟩
def F52 : Fn := ⟨defArgs (at_ 73), defBody (at_ 73), defScope (at_ 73), ["inputs", "states", "word", "index", "end"], [], [], [], []⟩
def F53 : Fn := ⟨defArgs (at_ 74), defBody (at_ 74), defScope (at_ 74), ["term", "input_spans", "state_spans", ".0", "inputs", "states"], [], [], [], []⟩
def F54 : Fn := ⟨defArgs (at_ 77), defBody (at_ 77), defScope (at_ 77), ["scale"], [], [], [], []⟩
def F55 : Fn := ⟨defArgs (at_ 78), defBody (at_ 78), defScope (at_ 78), ["row"], [], [], [], []⟩
def F56 : Fn := ⟨defArgs (at_ 79), defBody (at_ 79), defScope (at_ 79), ["word", "one", "other", "low", "high"], ["low", "high"], [], [], []⟩
def F57 : Fn := ⟨defArgs (at_ 80), defBody (at_ 80), defScope (at_ 80), ["one", "other", "many", "scale", "low", "high", "mine", "its", "error"], ["scale", "low", "high", "mine", "its", "error"], [], [], []⟩
def F58 : Fn := ⟨defArgs (at_ 81), defBody (at_ 81), defScope (at_ 81), ["word", "one", "other", "low", "high"], ["low", "high"], [], [], []⟩
def F59 : Fn := ⟨defArgs (at_ 82), defBody (at_ 82), defScope (at_ 82), ["one", "other"], [], [], [], []⟩
def F60 : Fn := ⟨defArgs (at_ 83), defBody (at_ 83), defScope (at_ 83), ["a", "b", "one", "other", "both", "low", "high", "error"], ["both", "low", "high", "error"], [], [], []⟩
def F61 : Fn := ⟨defArgs (at_ 85), defBody (at_ 85), defScope (at_ 85), ["script", ".0", "cell"], [], [], [], []⟩
def F62 : Fn := ⟨defArgs (at_ 86), defBody (at_ 86), defScope (at_ 86), ["bag", "many", "cell", "stirred", "value", "begin", "second"], ["cell", "stirred", "value", "begin", "second"], [], [], []⟩
def F63 : Fn := ⟨defArgs (at_ 87), defBody (at_ 87), defScope (at_ 87), ["bag", "things"], [], [], [], []⟩
def F64 : Fn := ⟨defArgs (at_ 88), defBody (at_ 88), defScope (at_ 88), ["found", "due", "pairs", "at", "one", "other"], ["pairs", "at", "one", "other"], [], [], []⟩
def F65 : Fn := ⟨defArgs (at_ 89), defBody (at_ 89), defScope (at_ 89), ["over", "under", "one", "other"], ["one", "other"], [], [], []⟩
def F66 : Fn := ⟨defArgs (at_ 90), defBody (at_ 90), defScope (at_ 90), ["one", "other"], [], [], [], []⟩
def F67 : Fn := ⟨defArgs (at_ 91), defBody (at_ 91), defScope (at_ 91), ["one", "other"], [], [], [], []⟩
def F68 : Fn := ⟨defArgs (at_ 92), defBody (at_ 92), defScope (at_ 92), ["one", "other"], [], [], [], []⟩
def F69 : Fn := ⟨defArgs (at_ 93), defBody (at_ 93), defScope (at_ 93), ["one", "other"], [], [], [], []⟩
def F70 : Fn := ⟨defArgs (at_ 94), defBody (at_ 94), defScope (at_ 94), ["one"], [], [], [], []⟩
def F71 : Fn := ⟨defArgs (at_ 95), defBody (at_ 95), defScope (at_ 95), ["one", "other"], [], [], [], []⟩
def F72 : Fn := ⟨defArgs (at_ 96), defBody (at_ 96), defScope (at_ 96), ["one", "other"], [], [], [], []⟩
def F73 : Fn := ⟨defArgs (at_ 97), defBody (at_ 97), defScope (at_ 97), ["scale", "many", "found", "turn"], ["many", "found", "turn"], [], [], []⟩
def F74 : Fn := ⟨defArgs (at_ 98), defBody (at_ 98), defScope (at_ 98), ["one", "other", "some", "low", "high", "number"], ["some", "low", "high", "number"], [], [], []⟩
def F75 : Fn := ⟨defArgs (at_ 99), defBody (at_ 99), defScope (at_ 99), ["span_v"], [], [], [], []⟩
def F76 : Fn := ⟨defArgs (at_ 100), defBody (at_ 100), defScope (at_ 100), ["a", "b", "one", "other", "near", "low", "high", "error"], ["near", "low", "high", "error"], [], [], []⟩
def F77 : Fn := ⟨defArgs (at_ 101), defBody (at_ 101), defScope (at_ 101), ["bag", "over"], ["over"], [], [], []⟩
def F78 : Fn := ⟨defArgs (at_ 102), defBody (at_ 102), defScope (at_ 102), ["bag", "low", "high"], ["low", "high"], [], [], []⟩
def F79 : Fn := ⟨defArgs (at_ 103), defBody (at_ 103), defScope (at_ 103), ["bag", "one", "part"], ["part"], [], [], []⟩
def F80 : Fn := ⟨defArgs (at_ 104), defBody (at_ 104), defScope (at_ 104), ["some", "low", "high", "number"], ["low", "high", "number"], [], [], []⟩
def F81 : Fn := ⟨defArgs (at_ 105), defBody (at_ 105), defScope (at_ 105), ["number", "power", "found", "turn"], ["found", "turn"], [], [], []⟩
def F82 : Fn := ⟨defArgs (at_ 106), defBody (at_ 106), defScope (at_ 106), ["one", "power", "some"], ["some"], [], [], []⟩
def F83 : Fn := ⟨defArgs (at_ 107), defBody (at_ 107), defScope (at_ 107), ["one", "number"], [], [], [], []⟩
def F84 : Fn := ⟨defArgs (at_ 108), defBody (at_ 108), defScope (at_ 108), ["one", "other", "sums", "less", "lesser_v"], ["sums", "less", "lesser_v"], [], [], []⟩
def F85 : Fn := ⟨defArgs (at_ 109), defBody (at_ 109), defScope (at_ 109), ["one", "other", "error", "number", "sums", "less", "lesser_v", "greater_v", "joined", "found", "due"], ["sums", "less", "lesser_v", "greater_v", "joined", "found", "due"], [], [], []⟩
def F86 : Fn := ⟨defArgs (at_ 110), defBody (at_ 110), defScope (at_ 110), ["bag", "one", "parts", "power", "wide", "low", "at", "high"], ["parts", "power", "wide", "low", "at", "high"], [], [], []⟩
def F87 : Fn := ⟨defArgs (at_ 111), defBody (at_ 111), defScope (at_ 111), ["one", "other", "third", "fourth"], [], [], [], []⟩
def F88 : Fn := ⟨defArgs (at_ 112), defBody (at_ 112), defScope (at_ 112), ["bag", "one", "other", "third", "x", "y", "s", "half", "spans", "states", "terms", "sums", "less", "due", "picked", "flat", "turn", "inputs", "its", ".0", "term", "span_of_v"], ["x", "y", "s", "half", "spans", "states", "terms", "sums", "less", "due", "picked", "flat", "turn", "inputs", "its"], [], [], []⟩
def F89 : Fn := ⟨defArgs (at_ 113), defBody (at_ 113), defScope (at_ 113), ["bag", "one", "other", "third", "errors", "a", "b", "c", "many", "both", "found", "sums", "less", "lesser_v", "greater_v", "far", "error", "due", "low", "high", ".0", "turn"], ["errors", "a", "b", "c", "many", "both", "found", "sums", "less", "lesser_v", "greater_v", "far", "error", "due", "low", "high"], [], [], []⟩
def F90 : Fn := ⟨defArgs (at_ 114), defBody (at_ 114), defScope (at_ 114), ["script", "bag", "turn", "one", "other", "third", "number"], ["turn", "one", "other", "third", "number"], ["bag"], [], []⟩
def fns0 : List Fn := [F0, F1, F2, F3, F4, F5, F6, F7, F8, F9, F10, F11, F12, F13, F14, F15, F16, F17, F18, F19, F20, F21, F22, F23, F24, F25, F26, F27, F28, F29]
def fns1 : List Fn := [F30, F31, F32, F33, F34, F35, F36, F37, F38, F39, F40, F41, F42, F43, F44, F45, F46, F47, F48, F49, F50, F51, F52, F53, F54, F55, F56, F57, F58, F59]
def fns2 : List Fn := [F60, F61, F62, F63, F64, F65, F66, F67, F68, F69, F70, F71, F72, F73, F74, F75, F76, F77, F78, F79, F80, F81, F82, F83, F84, F85, F86, F87, F88, F89]
def fns3 : List Fn := [F90]
def fns : List Fn := fns0 ++ fns1 ++ fns2 ++ fns3
def pg : Pg := ⟨fns, glo, fun _ => none, kc⟩
theorem bd0 : F0.Bd := fun x q kV doc pm an cdv ct us hl => match us, hl with | [_, _], _ => rfl
theorem good0 : F0.good = true := by decide +kernel
theorem bd1 : F1.Bd := fun x q kV doc pm an cdv ct us hl => match us, hl with | [_, _], _ => rfl
theorem good1 : F1.good = true := by decide +kernel
theorem bd2 : F2.Bd := fun x q kV doc pm an cdv ct us hl => match us, hl with | [_, _], _ => rfl
theorem good2 : F2.good = true := by decide +kernel
theorem bd3 : F3.Bd := fun x q kV doc pm an cdv ct us hl => match us, hl with | [_, _], _ => rfl
theorem good3 : F3.good = true := by decide +kernel
theorem bd4 : F4.Bd := fun x q kV doc pm an cdv ct us hl => match us, hl with | [_, _], _ => rfl
theorem good4 : F4.good = true := by decide +kernel
theorem bd5 : F5.Bd := fun x q kV doc pm an cdv ct us hl => match us, hl with | [_], _ => rfl
theorem good5 : F5.good = true := by decide +kernel
theorem bd6 : F6.Bd := fun x q kV doc pm an cdv ct us hl => match us, hl with | [_, _], _ => rfl
theorem good6 : F6.good = true := by decide +kernel
theorem bd7 : F7.Bd := fun x q kV doc pm an cdv ct us hl => match us, hl with | [_, _], _ => rfl
theorem good7 : F7.good = true := by decide +kernel
theorem bd8 : F8.Bd := fun x q kV doc pm an cdv ct us hl => match us, hl with | [_, _], _ => rfl
theorem good8 : F8.good = true := by decide +kernel
theorem bd9 : F9.Bd := fun x q kV doc pm an cdv ct us hl => match us, hl with | [_], _ => rfl
theorem good9 : F9.good = true := by decide +kernel
theorem bd10 : F10.Bd := fun x q kV doc pm an cdv ct us hl => match us, hl with | [_], _ => rfl
theorem good10 : F10.good = true := by decide +kernel
theorem bd11 : F11.Bd := fun x q kV doc pm an cdv ct us hl => match us, hl with | [_], _ => rfl
theorem good11 : F11.good = true := by decide +kernel
theorem bd12 : F12.Bd := fun x q kV doc pm an cdv ct us hl => match us, hl with | [_, _], _ => rfl
theorem good12 : F12.good = true := by decide +kernel
theorem bd13 : F13.Bd := fun x q kV doc pm an cdv ct us hl => match us, hl with | [_, _], _ => rfl
theorem good13 : F13.good = true := by decide +kernel
theorem bd14 : F14.Bd := fun x q kV doc pm an cdv ct us hl => match us, hl with | [_, _], _ => rfl
theorem good14 : F14.good = true := by decide +kernel
theorem bd15 : F15.Bd := fun x q kV doc pm an cdv ct us hl => match us, hl with | [_, _], _ => rfl
theorem good15 : F15.good = true := by decide +kernel
theorem bd16 : F16.Bd := fun x q kV doc pm an cdv ct us hl => match us, hl with | [_, _], _ => rfl
theorem good16 : F16.good = true := by decide +kernel
theorem bd17 : F17.Bd := fun x q kV doc pm an cdv ct us hl => match us, hl with | [_, _], _ => rfl
theorem good17 : F17.good = true := by decide +kernel
theorem bd18 : F18.Bd := fun x q kV doc pm an cdv ct us hl => match us, hl with | [_, _], _ => rfl
theorem good18 : F18.good = true := by decide +kernel
theorem bd19 : F19.Bd := fun x q kV doc pm an cdv ct us hl => match us, hl with | [_, _], _ => rfl
theorem good19 : F19.good = true := by decide +kernel
theorem bd20 : F20.Bd := fun x q kV doc pm an cdv ct us hl => match us, hl with | [_, _], _ => rfl
theorem good20 : F20.good = true := by decide +kernel
theorem bd21 : F21.Bd := fun x q kV doc pm an cdv ct us hl => match us, hl with | [_], _ => rfl
theorem good21 : F21.good = true := by decide +kernel
theorem bd22 : F22.Bd := fun x q kV doc pm an cdv ct us hl => match us, hl with | [_], _ => rfl
theorem good22 : F22.good = true := by decide +kernel
theorem bd23 : F23.Bd := fun x q kV doc pm an cdv ct us hl => match us, hl with | [_, _], _ => rfl
theorem good23 : F23.good = true := by decide +kernel
theorem bd24 : F24.Bd := fun x q kV doc pm an cdv ct us hl => match us, hl with | [_, _, _], _ => rfl
theorem good24 : F24.good = true := by decide +kernel
theorem bd25 : F25.Bd := fun x q kV doc pm an cdv ct us hl => match us, hl with | [_], _ => rfl
theorem good25 : F25.good = true := by decide +kernel
theorem bd26 : F26.Bd := fun x q kV doc pm an cdv ct us hl => match us, hl with | [_], _ => rfl
theorem good26 : F26.good = true := by decide +kernel
theorem bd27 : F27.Bd := fun x q kV doc pm an cdv ct us hl => match us, hl with | [_], _ => rfl
theorem good27 : F27.good = true := by decide +kernel
theorem bd28 : F28.Bd := fun x q kV doc pm an cdv ct us hl => match us, hl with | [_], _ => rfl
theorem good28 : F28.good = true := by decide +kernel
theorem bd29 : F29.Bd := fun x q kV doc pm an cdv ct us hl => match us, hl with | [_], _ => rfl
theorem good29 : F29.good = true := by decide +kernel
theorem bd30 : F30.Bd := fun x q kV doc pm an cdv ct us hl => match us, hl with | [_], _ => rfl
theorem good30 : F30.good = true := by decide +kernel
theorem bd31 : F31.Bd := fun x q kV doc pm an cdv ct us hl => match us, hl with | [_], _ => rfl
theorem good31 : F31.good = true := by decide +kernel
theorem bd32 : F32.Bd := fun x q kV doc pm an cdv ct us hl => match us, hl with | [_], _ => rfl
theorem good32 : F32.good = true := by decide +kernel
theorem bd33 : F33.Bd := fun x q kV doc pm an cdv ct us hl => match us, hl with | [_], _ => rfl
theorem good33 : F33.good = true := by decide +kernel
theorem bd34 : F34.Bd := fun x q kV doc pm an cdv ct us hl => match us, hl with | [_, _], _ => rfl
theorem good34 : F34.good = true := by decide +kernel
theorem bd35 : F35.Bd := fun x q kV doc pm an cdv ct us hl => match us, hl with | [_, _], _ => rfl
theorem good35 : F35.good = true := by decide +kernel
theorem bd36 : F36.Bd := fun x q kV doc pm an cdv ct us hl => match us, hl with | [_, _], _ => rfl
theorem good36 : F36.good = true := by decide +kernel
theorem bd37 : F37.Bd := fun x q kV doc pm an cdv ct us hl => match us, hl with | [_, _], _ => rfl
theorem good37 : F37.good = true := by decide +kernel
theorem bd38 : F38.Bd := fun x q kV doc pm an cdv ct us hl => match us, hl with | [_, _], _ => rfl
theorem good38 : F38.good = true := by decide +kernel
theorem bd39 : F39.Bd := fun x q kV doc pm an cdv ct us hl => match us, hl with | [_, _, _], _ => rfl
theorem good39 : F39.good = true := by decide +kernel
theorem bd40 : F40.Bd := fun x q kV doc pm an cdv ct us hl => match us, hl with | [_, _, _], _ => rfl
theorem good40 : F40.good = true := by decide +kernel
theorem bd41 : F41.Bd := fun x q kV doc pm an cdv ct us hl => match us, hl with | [_, _], _ => rfl
theorem good41 : F41.good = true := by decide +kernel
theorem bd42 : F42.Bd := fun x q kV doc pm an cdv ct us hl => match us, hl with | [_, _], _ => rfl
theorem good42 : F42.good = true := by decide +kernel
theorem bd43 : F43.Bd := fun x q kV doc pm an cdv ct us hl => match us, hl with | [_, _, _], _ => rfl
theorem good43 : F43.good = true := by decide +kernel
theorem bd44 : F44.Bd := fun x q kV doc pm an cdv ct us hl => match us, hl with | [_, _, _], _ => rfl
theorem good44 : F44.good = true := by decide +kernel
theorem bd45 : F45.Bd := fun x q kV doc pm an cdv ct us hl => match us, hl with | [_, _, _], _ => rfl
theorem good45 : F45.good = true := by decide +kernel
theorem bd46 : F46.Bd := fun x q kV doc pm an cdv ct us hl => match us, hl with | [_, _, _], _ => rfl
theorem good46 : F46.good = true := by decide +kernel
theorem bd47 : F47.Bd := fun x q kV doc pm an cdv ct us hl => match us, hl with | [_], _ => rfl
theorem good47 : F47.good = true := by decide +kernel
theorem bd48 : F48.Bd := fun x q kV doc pm an cdv ct us hl => match us, hl with | [_, _, _], _ => rfl
theorem good48 : F48.good = true := by decide +kernel
theorem bd49 : F49.Bd := fun x q kV doc pm an cdv ct us hl => match us, hl with | [_], _ => rfl
theorem good49 : F49.good = true := by decide +kernel
theorem bd50 : F50.Bd := fun x q kV doc pm an cdv ct us hl => match us, hl with | [_], _ => rfl
theorem good50 : F50.good = true := by decide +kernel
theorem bd51 : F51.Bd := fun x q kV doc pm an cdv ct us hl => match us, hl with | [_, _, _], _ => rfl
theorem good51 : F51.good = true := by decide +kernel
theorem bd52 : F52.Bd := fun x q kV doc pm an cdv ct us hl => match us, hl with | [_, _, _, _, _], _ => rfl
theorem good52 : F52.good = true := by decide +kernel
theorem bd53 : F53.Bd := fun x q kV doc pm an cdv ct us hl => match us, hl with | [_, _, _], _ => rfl
theorem good53 : F53.good = true := by decide +kernel
theorem bd54 : F54.Bd := fun x q kV doc pm an cdv ct us hl => match us, hl with | [_], _ => rfl
theorem good54 : F54.good = true := by decide +kernel
theorem bd55 : F55.Bd := fun x q kV doc pm an cdv ct us hl => match us, hl with | [_], _ => rfl
theorem good55 : F55.good = true := by decide +kernel
theorem bd56 : F56.Bd := fun x q kV doc pm an cdv ct us hl => match us, hl with | [_, _, _], _ => rfl
theorem good56 : F56.good = true := by decide +kernel
theorem bd57 : F57.Bd := fun x q kV doc pm an cdv ct us hl => match us, hl with | [_, _, _], _ => rfl
theorem good57 : F57.good = true := by decide +kernel
theorem bd58 : F58.Bd := fun x q kV doc pm an cdv ct us hl => match us, hl with | [_, _, _], _ => rfl
theorem good58 : F58.good = true := by decide +kernel
theorem bd59 : F59.Bd := fun x q kV doc pm an cdv ct us hl => match us, hl with | [_, _], _ => rfl
theorem good59 : F59.good = true := by decide +kernel
theorem bd60 : F60.Bd := fun x q kV doc pm an cdv ct us hl => match us, hl with | [_, _, _, _], _ => rfl
theorem good60 : F60.good = true := by decide +kernel
theorem bd61 : F61.Bd := fun x q kV doc pm an cdv ct us hl => match us, hl with | [_], _ => rfl
theorem good61 : F61.good = true := by decide +kernel
theorem bd62 : F62.Bd := fun x q kV doc pm an cdv ct us hl => match us, hl with | [_, _], _ => rfl
theorem good62 : F62.good = true := by decide +kernel
theorem bd63 : F63.Bd := fun x q kV doc pm an cdv ct us hl => match us, hl with | [_, _], _ => rfl
theorem good63 : F63.good = true := by decide +kernel
theorem bd64 : F64.Bd := fun x q kV doc pm an cdv ct us hl => match us, hl with | [_, _], _ => rfl
theorem good64 : F64.good = true := by decide +kernel
theorem bd65 : F65.Bd := fun x q kV doc pm an cdv ct us hl => match us, hl with | [_, _], _ => rfl
theorem good65 : F65.good = true := by decide +kernel
theorem bd66 : F66.Bd := fun x q kV doc pm an cdv ct us hl => match us, hl with | [_, _], _ => rfl
theorem good66 : F66.good = true := by decide +kernel
theorem bd67 : F67.Bd := fun x q kV doc pm an cdv ct us hl => match us, hl with | [_, _], _ => rfl
theorem good67 : F67.good = true := by decide +kernel
theorem bd68 : F68.Bd := fun x q kV doc pm an cdv ct us hl => match us, hl with | [_, _], _ => rfl
theorem good68 : F68.good = true := by decide +kernel
theorem bd69 : F69.Bd := fun x q kV doc pm an cdv ct us hl => match us, hl with | [_, _], _ => rfl
theorem good69 : F69.good = true := by decide +kernel
theorem bd70 : F70.Bd := fun x q kV doc pm an cdv ct us hl => match us, hl with | [_], _ => rfl
theorem good70 : F70.good = true := by decide +kernel
theorem bd71 : F71.Bd := fun x q kV doc pm an cdv ct us hl => match us, hl with | [_, _], _ => rfl
theorem good71 : F71.good = true := by decide +kernel
theorem bd72 : F72.Bd := fun x q kV doc pm an cdv ct us hl => match us, hl with | [_, _], _ => rfl
theorem good72 : F72.good = true := by decide +kernel
theorem bd73 : F73.Bd := fun x q kV doc pm an cdv ct us hl => match us, hl with | [_], _ => rfl
theorem good73 : F73.good = true := by decide +kernel
theorem bd74 : F74.Bd := fun x q kV doc pm an cdv ct us hl => match us, hl with | [_, _], _ => rfl
theorem good74 : F74.good = true := by decide +kernel
theorem bd75 : F75.Bd := fun x q kV doc pm an cdv ct us hl => match us, hl with | [_], _ => rfl
theorem good75 : F75.good = true := by decide +kernel
theorem bd76 : F76.Bd := fun x q kV doc pm an cdv ct us hl => match us, hl with | [_, _, _, _], _ => rfl
theorem good76 : F76.good = true := by decide +kernel
theorem bd77 : F77.Bd := fun x q kV doc pm an cdv ct us hl => match us, hl with | [_], _ => rfl
theorem good77 : F77.good = true := by decide +kernel
theorem bd78 : F78.Bd := fun x q kV doc pm an cdv ct us hl => match us, hl with | [_], _ => rfl
theorem good78 : F78.good = true := by decide +kernel
theorem bd79 : F79.Bd := fun x q kV doc pm an cdv ct us hl => match us, hl with | [_, _], _ => rfl
theorem good79 : F79.good = true := by decide +kernel
theorem bd80 : F80.Bd := fun x q kV doc pm an cdv ct us hl => match us, hl with | [_], _ => rfl
theorem good80 : F80.good = true := by decide +kernel
theorem bd81 : F81.Bd := fun x q kV doc pm an cdv ct us hl => match us, hl with | [_, _], _ => rfl
theorem good81 : F81.good = true := by decide +kernel
theorem bd82 : F82.Bd := fun x q kV doc pm an cdv ct us hl => match us, hl with | [_, _], _ => rfl
theorem good82 : F82.good = true := by decide +kernel
theorem bd83 : F83.Bd := fun x q kV doc pm an cdv ct us hl => match us, hl with | [_, _], _ => rfl
theorem good83 : F83.good = true := by decide +kernel
theorem bd84 : F84.Bd := fun x q kV doc pm an cdv ct us hl => match us, hl with | [_, _], _ => rfl
theorem good84 : F84.good = true := by decide +kernel
theorem bd85 : F85.Bd := fun x q kV doc pm an cdv ct us hl => match us, hl with | [_, _, _, _], _ => rfl
theorem good85 : F85.good = true := by decide +kernel
theorem bd86 : F86.Bd := fun x q kV doc pm an cdv ct us hl => match us, hl with | [_, _], _ => rfl
theorem good86 : F86.good = true := by decide +kernel
theorem bd87 : F87.Bd := fun x q kV doc pm an cdv ct us hl => match us, hl with | [_, _, _, _], _ => rfl
theorem good87 : F87.good = true := by decide +kernel
theorem bd88 : F88.Bd := fun x q kV doc pm an cdv ct us hl => match us, hl with | [_, _, _, _], _ => rfl
theorem good88 : F88.good = true := by decide +kernel
theorem bd89 : F89.Bd := fun x q kV doc pm an cdv ct us hl => match us, hl with | [_, _, _, _], _ => rfl
theorem good89 : F89.good = true := by decide +kernel
theorem bd90 : F90.Bd := fun x q kV doc pm an cdv ct us hl => match us, hl with | [_], _ => rfl
theorem good90 : F90.good = true := by decide +kernel
end K03

set_option Elab.async false
set_option linter.all false
set_option maxRecDepth 100000
set_option maxHeartbeats 0
/-! KH: the head of k03 (printed by gen_KH.py). -/
namespace K03
open PySem PySem.Spec PyProof.Rows L2 Mi
theorem all_c {α : Type} {p : α → Prop} {x : α} {l : List α} (h : p x) (t : ∀ y ∈ l, p y) : ∀ y ∈ x :: l, p y := fun y hy => by
  rcases List.mem_cons.mp hy with rfl | hy
  · exact h
  · exact t y hy
theorem all_n {α : Type} {p : α → Prop} : ∀ y ∈ ([] : List α), p y := fun y hy => by cases hy
theorem all_a {α : Type} {p : α → Prop} {l r : List α} (h : ∀ y ∈ l, p y) (t : ∀ y ∈ r, p y) : ∀ y ∈ l ++ r, p y := fun y hy => (List.mem_append.mp hy).elim (h y) (t y)
def nm0 : List Str := ["common", "made", "plus", "minus", "times", "size", "is_less", "lesser", "greater", "two_to", "point", "span", "plus_span", "minus_span", "times_span", "least_span", "most_span", "joined_span", "power_span", "holds", "is_inside", "far_of", "wide_of", "wider", "part_of", "atom_weight", "weight_of", "checked_term", "from_list", "number_term"]
theorem ag0 : ∀ f ∈ fns0, f.good = true := all_c good0 <| all_c good1 <| all_c good2 <| all_c good3 <| all_c good4 <| all_c good5 <| all_c good6 <| all_c good7 <| all_c good8 <| all_c good9 <| all_c good10 <| all_c good11 <| all_c good12 <| all_c good13 <| all_c good14 <| all_c good15 <| all_c good16 <| all_c good17 <| all_c good18 <| all_c good19 <| all_c good20 <| all_c good21 <| all_c good22 <| all_c good23 <| all_c good24 <| all_c good25 <| all_c good26 <| all_c good27 <| all_c good28 <| all_c good29 <| all_n
theorem ab0 : ∀ f ∈ fns0, f.Bd := all_c bd0 <| all_c bd1 <| all_c bd2 <| all_c bd3 <| all_c bd4 <| all_c bd5 <| all_c bd6 <| all_c bd7 <| all_c bd8 <| all_c bd9 <| all_c bd10 <| all_c bd11 <| all_c bd12 <| all_c bd13 <| all_c bd14 <| all_c bd15 <| all_c bd16 <| all_c bd17 <| all_c bd18 <| all_c bd19 <| all_c bd20 <| all_c bd21 <| all_c bd22 <| all_c bd23 <| all_c bd24 <| all_c bd25 <| all_c bd26 <| all_c bd27 <| all_c bd28 <| all_c bd29 <| all_n
def nm1 : List Str := ["atom_term", "input_term", "state_term", "number_of", "plus_term", "scaled_term", "minus_term", "times_monomial", "times_term", "pick_term", "ordered_term", "least_term", "most_term", "atom_value", "term_value", "monomial_span", "term_span", "pick_span", "atom_span", "parts_of", "atoms_in", "corners", "with_end", "corner_span", "unit", "span_of", "sum_row", "mul_row", "chosen_row", "apart"]
theorem ag1 : ∀ f ∈ fns1, f.good = true := all_c good30 <| all_c good31 <| all_c good32 <| all_c good33 <| all_c good34 <| all_c good35 <| all_c good36 <| all_c good37 <| all_c good38 <| all_c good39 <| all_c good40 <| all_c good41 <| all_c good42 <| all_c good43 <| all_c good44 <| all_c good45 <| all_c good46 <| all_c good47 <| all_c good48 <| all_c good49 <| all_c good50 <| all_c good51 <| all_c good52 <| all_c good53 <| all_c good54 <| all_c good55 <| all_c good56 <| all_c good57 <| all_c good58 <| all_c good59 <| all_n
theorem ab1 : ∀ f ∈ fns1, f.Bd := all_c bd30 <| all_c bd31 <| all_c bd32 <| all_c bd33 <| all_c bd34 <| all_c bd35 <| all_c bd36 <| all_c bd37 <| all_c bd38 <| all_c bd39 <| all_c bd40 <| all_c bd41 <| all_c bd42 <| all_c bd43 <| all_c bd44 <| all_c bd45 <| all_c bd46 <| all_c bd47 <| all_c bd48 <| all_c bd49 <| all_c bd50 <| all_c bd51 <| all_c bd52 <| all_c bd53 <| all_c bd54 <| all_c bd55 <| all_c bd56 <| all_c bd57 <| all_c bd58 <| all_c bd59 <| all_n
def nm2 : List Str := ["pick_row", "_law_bag", "_law_take", "_law_some", "_law_alike", "_law_made", "_law_add", "_law_sub", "_law_mul", "_law_less", "_law_abs", "_law_lesser", "_law_greater", "_law_two", "_law_span_mul", "_law_far", "_law_pick_rule", "_law_part", "_law_span", "_law_inside", "_law_least_of", "_law_power", "_law_power_span", "_law_holds", "_law_four", "_law_spans_good", "_law_parts_good", "_law_picked", "_law_terms_good", "_law_rows_good"]
theorem ag2 : ∀ f ∈ fns2, f.good = true := all_c good60 <| all_c good61 <| all_c good62 <| all_c good63 <| all_c good64 <| all_c good65 <| all_c good66 <| all_c good67 <| all_c good68 <| all_c good69 <| all_c good70 <| all_c good71 <| all_c good72 <| all_c good73 <| all_c good74 <| all_c good75 <| all_c good76 <| all_c good77 <| all_c good78 <| all_c good79 <| all_c good80 <| all_c good81 <| all_c good82 <| all_c good83 <| all_c good84 <| all_c good85 <| all_c good86 <| all_c good87 <| all_c good88 <| all_c good89 <| all_n
theorem ab2 : ∀ f ∈ fns2, f.Bd := all_c bd60 <| all_c bd61 <| all_c bd62 <| all_c bd63 <| all_c bd64 <| all_c bd65 <| all_c bd66 <| all_c bd67 <| all_c bd68 <| all_c bd69 <| all_c bd70 <| all_c bd71 <| all_c bd72 <| all_c bd73 <| all_c bd74 <| all_c bd75 <| all_c bd76 <| all_c bd77 <| all_c bd78 <| all_c bd79 <| all_c bd80 <| all_c bd81 <| all_c bd82 <| all_c bd83 <| all_c bd84 <| all_c bd85 <| all_c bd86 <| all_c bd87 <| all_c bd88 <| all_c bd89 <| all_n
def nm3 : List Str := ["law"]
theorem ag3 : ∀ f ∈ fns3, f.good = true := all_c good90 <| all_n
theorem ab3 : ∀ f ∈ fns3, f.Bd := all_c bd90 <| all_n
def nm : List Str := nm0 ++ nm1 ++ nm2 ++ nm3
theorem good_all : ∀ f ∈ pg.fns, f.good = true := (all_a (all_a (all_a ag0 ag1) ag2) ag3)
theorem bd_all : ∀ f ∈ pg.fns, f.Bd := (all_a (all_a (all_a ab0 ab1) ab2) ab3)
abbrev rw := PySem.Challenge.rw_scaledcode_k03_intervals_terms_and_rows
abbrev Rq : PySem.W.OpenRow := PySem.W.OpenLaw.row rw
def lawAt : Nat := P.main.body.length - 1
abbrev hk : PySem.W.Hook := hookM 2 nm pg
def ob (s : PySem.W.SharedT) : He.AlT × Bool := obM 2 nm pg (HandSHeadRun.getT s)
theorem ob_eq (s : PySem.W.SharedT) : ob s = hk.obs s.abs := obM_eq (HandSHeadRun.getT_eq s)
def names : List PySem.Str := (P.main.scope.names.map (·.1)).filter fun x => x != ("law" : PySem.Str) && x != ("__name__" : PySem.Str)
open HandSHeadRun PySem.W PySem.Calls
theorem run0 (w : World) : HandSHeadRun.RunEq Rq (PySem.W.view Rq.prog [lawAt]) hk ob 6000 names (w.withFollow "special-get-raises" false) := fun os => by kernel_rfl
theorem run1 (w : World) : HandSHeadRun.RunEq Rq (PySem.W.view Rq.prog [lawAt]) hk ob 6000 names (w.withFollow "special-get-raises" true) := fun os => by kernel_rfl
theorem run (w : World) : HandSHeadRun.RunEq Rq (PySem.W.view Rq.prog [lawAt]) hk ob 6000 names w :=
  byRow2 "special-get-raises" (P := fun w => HandSHeadRun.RunEq Rq (PySem.W.view Rq.prog [lawAt]) hk ob 6000 names w) run0 run1 w
end K03

set_option Elab.async false
set_option linter.all false
set_option maxRecDepth 100000
set_option maxHeartbeats 4000000
/-! MT: the reckoning step by step, for simp: what follows a step is a constant, never a lambda. -/
namespace Mi
open PySem PySem.Spec PyProof.Rows L2 PySem.W PySem.SeqAt
def ofO {α β : Type} (o : Option α) (k : α → R β) : R β := match o with
  | some a => k a
  | none => .bad
def ofOF {α : Type} (o : Option α) (k : α → Fl) : Fl := match o with
  | some a => k a
  | none => .bad
def ofRc (r : Rc) (ρ : List (Option GV)) : R GV := match r with
  | .ok g S => .ok g ⟨ρ, S⟩
  | .exc x xs S => .exc x xs ⟨ρ, S⟩
  | .bad => .bad
def RcB {α : Type} (r : R α) (k : α → T → Rc) : Rc := match r with
  | .ok a t => k a t
  | .exc x xs t => .exc x xs t.S
  | .bad => .bad
def slotO (ρ : List (Option GV)) (i : Nat) : Option GV := match ρ, i with
  | [], _ => none
  | o :: _, 0 => o
  | _ :: r, i + 1 => slotO r i
theorem slotO_eq : ∀ (ρ : List (Option GV)) (i : Nat), slotO ρ i = ρ[i]?.join
  | [], _ => rfl
  | o :: _, 0 => by simp [slotO]
  | _ :: r, i + 1 => by simp [slotO, slotO_eq r i]
theorem slotO_0 (o : Option GV) (r : List (Option GV)) : slotO (o :: r) 0 = o := rfl
theorem slotO_s (o : Option GV) (r : List (Option GV)) (i : Nat) : slotO (o :: r) (i + 1) = slotO r i := rfl
theorem set_0 {α : Type} (o x : α) (r : List α) : (o :: r).set 0 x = x :: r := rfl
theorem set_s {α : Type} (o x : α) (r : List α) (i : Nat) : (o :: r).set (i + 1) x = o :: r.set i x := rfl
theorem ofO_some {α β : Type} (a : α) (k : α → R β) : ofO (some a) k = k a := rfl
theorem ofOF_some {α : Type} (a : α) (k : α → Fl) : ofOF (some a) k = k a := rfl
theorem ofRc_ok (g : GV) (S : List Ob) (ρ) : ofRc (.ok g S) ρ = .ok g ⟨ρ, S⟩ := rfl
theorem RcB_ok {α : Type} (a : α) (t : T) (k : α → T → Rc) : RcB (.ok a t) k = k a t := rfl
theorem bind_ok {α β : Type} (a : α) (t : T) (k : α → T → R β) : (R.ok a t).bind k = k a t := rfl
theorem fl_ok {α : Type} (a : α) (t : T) (k : α → T → Fl) : (R.ok a t).fl k = k a t := rfl

def kRet  (g : GV) (t : T) : Fl := .rt g t
theorem e_kRet  (g : GV) (t : T) : kRet g t = .rt g t := rfl
def kNx {α : Type} (x : α) (t : T) : Fl := .nx t
theorem e_kNx {α : Type} (x : α) (t : T) : kNx x t = .nx t := rfl
def kIfS (a b : St') (k : Bool) (t : T) : Fl := if k = true then a t else b t
theorem e_kIfS1 (a b : St') (t : T) : kIfS a b true t = a t := rfl
theorem e_kIfS0 (a b : St') (t : T) : kIfS a b false t = b t := rfl
def kAsg (b : GV → M Unit) (g : GV) (t : T) : Fl := (b g t).fl kNx
theorem e_kAsg (b : GV → M Unit) (g : GV) (t : T) : kAsg b g t = (b g t).fl kNx := rfl
def kAsg2b (b2 : GV → M Unit) (x : D) (u : Unit) (t : T) : Fl := (b2 (.d x) t).fl kNx
theorem e_kAsg2b (b2 : GV → M Unit) (x : D) (u : Unit) (t : T) : kAsg2b b2 x u t = (b2 (.d x) t).fl kNx := rfl
def kAsg2 (b1 : GV → M Unit) (b2 : GV → M Unit) (x : D) (t : T) : Fl := (b1 (.d x) t).fl (kAsg2b b2 x)
theorem e_kAsg2 (b1 : GV → M Unit) (b2 : GV → M Unit) (x : D) (t : T) : kAsg2 b1 b2 x t = (b1 (.d x) t).fl (kAsg2b b2 x) := rfl
def kPar2c (j : Nat) (kj : Kind) (g2 : GV) (u : Unit) (t : T) : Fl := (gNm j kj g2 t).fl kNx
theorem e_kPar2c (j : Nat) (kj : Kind) (g2 : GV) (u : Unit) (t : T) : kPar2c j kj g2 u t = (gNm j kj g2 t).fl kNx := rfl
def kPar2b (i : Nat) (ki : Kind) (j : Nat) (kj : Kind) (g : GV) (g2 : GV) (t : T) : Fl := (gNm i ki g t).fl (kPar2c j kj g2)
theorem e_kPar2b (i : Nat) (ki : Kind) (j : Nat) (kj : Kind) (g : GV) (g2 : GV) (t : T) : kPar2b i ki j kj g g2 t = (gNm i ki g t).fl (kPar2c j kj g2) := rfl
def kPar2a (i : Nat) (ki : Kind) (j : Nat) (kj : Kind) (b : M GV) (g : GV) (t : T) : Fl := (b t).fl (kPar2b i ki j kj g)
theorem e_kPar2a (i : Nat) (ki : Kind) (j : Nat) (kj : Kind) (b : M GV) (g : GV) (t : T) : kPar2a i ki j kj b g t = (b t).fl (kPar2b i ki j kj g) := rfl
def kPar3d (j : Nat) (kj : Kind) (l : Nat) (kl : Kind) (g2 : GV) (g3 : GV) (u : Unit) (t : T) : Fl := (gNm j kj g2 t).fl (kPar2c l kl g3)
theorem e_kPar3d (j : Nat) (kj : Kind) (l : Nat) (kl : Kind) (g2 : GV) (g3 : GV) (u : Unit) (t : T) : kPar3d j kj l kl g2 g3 u t = (gNm j kj g2 t).fl (kPar2c l kl g3) := rfl
def kPar3c (i : Nat) (ki : Kind) (j : Nat) (kj : Kind) (l : Nat) (kl : Kind) (g : GV) (g2 : GV) (g3 : GV) (t : T) : Fl := (gNm i ki g t).fl (kPar3d j kj l kl g2 g3)
theorem e_kPar3c (i : Nat) (ki : Kind) (j : Nat) (kj : Kind) (l : Nat) (kl : Kind) (g : GV) (g2 : GV) (g3 : GV) (t : T) : kPar3c i ki j kj l kl g g2 g3 t = (gNm i ki g t).fl (kPar3d j kj l kl g2 g3) := rfl
def kPar3b (i : Nat) (ki : Kind) (j : Nat) (kj : Kind) (l : Nat) (kl : Kind) (c : M GV) (g : GV) (g2 : GV) (t : T) : Fl := (c t).fl (kPar3c i ki j kj l kl g g2)
theorem e_kPar3b (i : Nat) (ki : Kind) (j : Nat) (kj : Kind) (l : Nat) (kl : Kind) (c : M GV) (g : GV) (g2 : GV) (t : T) : kPar3b i ki j kj l kl c g g2 t = (c t).fl (kPar3c i ki j kj l kl g g2) := rfl
def kPar3a (i : Nat) (ki : Kind) (j : Nat) (kj : Kind) (l : Nat) (kl : Kind) (b : M GV) (c : M GV) (g : GV) (t : T) : Fl := (b t).fl (kPar3b i ki j kj l kl c g)
theorem e_kPar3a (i : Nat) (ki : Kind) (j : Nat) (kj : Kind) (l : Nat) (kl : Kind) (b : M GV) (c : M GV) (g : GV) (t : T) : kPar3a i ki j kj l kl b c g t = (b t).fl (kPar3b i ki j kj l kl c g) := rfl
def kFor (b : GV → M Unit) (body : St') (xs : List D) (t : T) : Fl := forL b body xs t
theorem e_kFor (b : GV → M Unit) (body : St') (xs : List D) (t : T) : kFor b body xs t = forL b body xs t := rfl
def fornx (f : Fl) (k : T → Fl) : Fl := match f with
  | .nx t2 => k t2
  | .ct t2 => k t2
  | .bk t2 => .nx t2
  | f => f
def kForB (b : GV → M Unit) (body : St') (xs : List D) (u : Unit) (t : T) : Fl := fornx (body t) (forL b body xs)
theorem e_kForB (b : GV → M Unit) (body : St') (xs : List D) (u : Unit) (t : T) : kForB b body xs u t = fornx (body t) (forL b body xs) := rfl
def kAugC (i : Nat) (k : Kind) (t : T) (g : GV) : Fl := (gNm i k g t).fl kNx
theorem e_kAugC (i : Nat) (k : Kind) (t : T) (g : GV) : kAugC i k t g = (gNm i k g t).fl kNx := rfl
def kAugB (i : Nat) (k : Kind) (f : List Ob → D → D → Option GV) (x : D) (y : D) (t : T) : Fl := ofOF (f t.S x y) (kAugC i k t)
theorem e_kAugB (i : Nat) (k : Kind) (f : List Ob → D → D → Option GV) (x : D) (y : D) (t : T) : kAugB i k f x y t = ofOF (f t.S x y) (kAugC i k t) := rfl
def kRetV (t : T) (g : GV) : Fl := .rt g t
theorem e_kRetV (t : T) (g : GV) : kRetV t g = .rt g t := rfl
def kToD  (g : GV) (t : T) : R D := .ok (toD g) t
theorem e_kToD  (g : GV) (t : T) : kToD g t = .ok (toD g) t := rfl
def cvG (i : Nat) (ρ : List (Option GV)) (S : List Ob) (g : GV) : R GV := match g with
  | .d x => .ok (.d x) ⟨ρ, S⟩
  | .ob s xs => .ok (.d (dOb s xs)) ⟨ρ.set i (some (.d (dOb s xs))), S⟩
theorem cvG_d (ρ : List (Option GV)) (S : List Ob) (x : D) (i : Nat) : cvG i ρ S (.d x) = .ok (.d x) ⟨ρ, S⟩ := rfl
theorem cvG_fl (ρ : List (Option GV)) (S : List Ob) (xs : List D) (i : Nat) : cvG i ρ S (.fl xs) = .ok (.d (.list xs)) ⟨ρ.set i (some (.d (.list xs))), S⟩ := rfl
def kFv (t : T) (g : GV) : R D := .ok .none t
theorem e_kFv (t : T) (g : GV) : kFv t g = .ok .none t := rfl
def kOk (t : T) (g : GV) : R GV := .ok g t
theorem e_kOk (t : T) (g : GV) : kOk t g = .ok g t := rfl
def kOp1c (f : List Ob → D → Option GV) (t : T) (y : D) : R GV := ofO (f t.S y) (kOk t)
theorem e_kOp1c (f : List Ob → D → Option GV) (t : T) (y : D) : kOp1c f t y = ofO (f t.S y) (kOk t) := rfl
def kOp1 (f : List Ob → D → Option GV) (a : Opd) (x : D) (t : T) : R GV := ofO (a.late x t) (kOp1c f t)
theorem e_kOp1 (f : List Ob → D → Option GV) (a : Opd) (x : D) (t : T) : kOp1 f a x t = ofO (a.late x t) (kOp1c f t) := rfl
def kOp2d (f : List Ob → D → D → Option GV) (t : T) (x : D) (y : D) : R GV := ofO (f t.S x y) (kOk t)
theorem e_kOp2d (f : List Ob → D → D → Option GV) (t : T) (x : D) (y : D) : kOp2d f t x y = ofO (f t.S x y) (kOk t) := rfl
def kOp2c (f : List Ob → D → D → Option GV) (b : Opd) (y : D) (t : T) (x : D) : R GV := ofO (b.late y t) (kOp2d f t x)
theorem e_kOp2c (f : List Ob → D → D → Option GV) (b : Opd) (y : D) (t : T) (x : D) : kOp2c f b y t x = ofO (b.late y t) (kOp2d f t x) := rfl
def kOp2b (f : List Ob → D → D → Option GV) (a : Opd) (b : Opd) (x : D) (y : D) (t : T) : R GV := ofO (a.late x t) (kOp2c f b y t)
theorem e_kOp2b (f : List Ob → D → D → Option GV) (a : Opd) (b : Opd) (x : D) (y : D) (t : T) : kOp2b f a b x y t = ofO (a.late x t) (kOp2c f b y t) := rfl
def kOp2a (f : List Ob → D → D → Option GV) (a : Opd) (b : Opd) (x : D) (t : T) : R GV := (b.first t).bind (kOp2b f a b x)
theorem e_kOp2a (f : List Ob → D → D → Option GV) (a : Opd) (b : Opd) (x : D) (t : T) : kOp2a f a b x t = (b.first t).bind (kOp2b f a b x) := rfl
def kConsB (x : D) (xs : List D) (t : T) : R (List D) := .ok (x :: xs) t
theorem e_kConsB (x : D) (xs : List D) (t : T) : kConsB x xs t = .ok (x :: xs) t := rfl
def kCons (r : M (List D)) (x : D) (t : T) : R (List D) := (r t).bind (kConsB x)
theorem e_kCons (r : M (List D)) (x : D) (t : T) : kCons r x t = (r t).bind (kConsB x) := rfl
def kStarC (ys : List D) (xs : List D) (t : T) : R (List D) := .ok (ys ++ xs) t
theorem e_kStarC (ys : List D) (xs : List D) (t : T) : kStarC ys xs t = .ok (ys ++ xs) t := rfl
def kStarB (r : M (List D)) (t : T) (ys : List D) : R (List D) := (r t).bind (kStarC ys)
theorem e_kStarB (r : M (List D)) (t : T) (ys : List D) : kStarB r t ys = (r t).bind (kStarC ys) := rfl
def kStarA (r : M (List D)) (t : T) (y : D) : R (List D) := ofO (itemsOf t.S y) (kStarB r t)
theorem e_kStarA (r : M (List D)) (t : T) (y : D) : kStarA r t y = ofO (itemsOf t.S y) (kStarB r t) := rfl
def kStar (a : Opd) (r : M (List D)) (x : D) (t : T) : R (List D) := ofO (a.late x t) (kStarA r t)
theorem e_kStar (a : Opd) (r : M (List D)) (x : D) (t : T) : kStar a r x t = ofO (a.late x t) (kStarA r t) := rfl
def kTup  (xs : List D) (t : T) : R GV := if xs.length ≤ lim then .ok (.d (.tuple xs)) t else .bad
theorem e_kTup  (xs : List D) (t : T) : kTup xs t = if xs.length ≤ lim then .ok (.d (.tuple xs)) t else .bad := rfl
def kLst  (xs : List D) (t : T) : R GV := if xs.length ≤ lim then .ok (.fl xs) t else .bad
theorem e_kLst  (xs : List D) (t : T) : kLst xs t = if xs.length ≤ lim then .ok (.fl xs) t else .bad := rfl
def kCall (call : Calls) (i : Nat) (xs : List D) (t : T) : R GV := ofRc (call i xs t.S) t.ρ
theorem e_kCall (call : Calls) (i : Nat) (xs : List D) (t : T) : kCall call i xs t = ofRc (call i xs t.S) t.ρ := rfl
def kCallVB (call : Calls) (as : M (List D)) (t : T) (i : Nat) : R GV := cCall call i as t
theorem e_kCallVB (call : Calls) (as : M (List D)) (t : T) (i : Nat) : kCallVB call as t i = cCall call i as t := rfl
def kCallV (call : Calls) (as : M (List D)) (f : D) (t : T) : R GV := ofO (fnOf? f) (kCallVB call as t)
theorem e_kCallV (call : Calls) (as : M (List D)) (f : D) (t : T) : kCallV call as f t = ofO (fnOf? f) (kCallVB call as t) := rfl
def kIfE (a b : M GV) (k : Bool) (t : T) : R GV := if k = true then a t else b t
theorem e_kIfE1 (a b : M GV) (t : T) : kIfE a b true t = a t := rfl
theorem e_kIfE0 (a b : M GV) (t : T) : kIfE a b false t = b t := rfl
def kTB (g : GV) (t : T) : R Bool := match g with
  | .d (.bool b) => .ok b t
  | _ => .bad
theorem e_kTB (b : Bool) (t : T) : kTB (.d (.bool b)) t = .ok b t := rfl
def kOkB (t : T) (b : Bool) : R Bool := .ok b t
theorem e_kOkB (t : T) (b : Bool) : kOkB t b = .ok b t := rfl
def kTruB (t : T) (y : D) : R Bool := ofO (truD t.S y) (kOkB t)
theorem e_kTruB (t : T) (y : D) : kTruB t y = ofO (truD t.S y) (kOkB t) := rfl
def kTru (a : Opd) (x : D) (t : T) : R Bool := ofO (a.late x t) (kTruB t)
theorem e_kTru (a : Opd) (x : D) (t : T) : kTru a x t = ofO (a.late x t) (kTruB t) := rfl
def kNotM  (b : Bool) (t : T) : R GV := .ok (.d (.bool (!b))) t
theorem e_kNotM  (b : Bool) (t : T) : kNotM b t = .ok (.d (.bool (!b))) t := rfl
def kTNot  (b : Bool) (t : T) : R Bool := .ok (!b) t
theorem e_kTNot  (b : Bool) (t : T) : kTNot b t = .ok (!b) t := rfl
def kTru1B (x : D) (t : T) (b : Bool) : R (D × Bool) := .ok (x, b) t
theorem e_kTru1B (x : D) (t : T) (b : Bool) : kTru1B x t b = .ok (x, b) t := rfl
def kTru1  (x : D) (t : T) : R (D × Bool) := ofO (truD t.S x) (kTru1B x t)
theorem e_kTru1  (x : D) (t : T) : kTru1 x t = ofO (truD t.S x) (kTru1B x t) := rfl
def kAndE (cs : List (M GV)) (x : D × Bool) (t : T) : R GV := if x.2 = true then cAndM cs t else .ok (.d x.1) t
theorem e_kAndE1 (cs : List (M GV)) (x : D) (t : T) : kAndE cs (x, true) t = cAndM cs t := rfl
theorem e_kAndE0 (cs : List (M GV)) (x : D) (t : T) : kAndE cs (x, false) t = .ok (.d x) t := rfl
def kOrE (cs : List (M GV)) (x : D × Bool) (t : T) : R GV := if x.2 = true then .ok (.d x.1) t else cOrM cs t
theorem e_kOrE1 (cs : List (M GV)) (x : D) (t : T) : kOrE cs (x, true) t = .ok (.d x) t := rfl
theorem e_kOrE0 (cs : List (M GV)) (x : D) (t : T) : kOrE cs (x, false) t = cOrM cs t := rfl
def ktAnd (cs : List (M Bool)) (b : Bool) (t : T) : R Bool := if b = true then tAndM cs t else .ok false t
theorem e_ktAnd1 (cs : List (M Bool)) (t : T) : ktAnd cs true t = tAndM cs t := rfl
theorem e_ktAnd0 (cs : List (M Bool)) (t : T) : ktAnd cs false t = .ok false t := rfl
def ktOr (cs : List (M Bool)) (b : Bool) (t : T) : R Bool := if b = true then .ok true t else tOrM cs t
theorem e_ktOr1 (cs : List (M Bool)) (t : T) : ktOr cs true t = .ok true t := rfl
theorem e_ktOr0 (cs : List (M Bool)) (t : T) : ktOr cs false t = tOrM cs t := rfl
def intO : D → Option Int
  | .int i => some i
  | _ => none
def strO : D → Option Str
  | .str i => some i
  | _ => none
def kOptB (t : T) (i : Int) : R (Option Int) := .ok (some i) t
theorem e_kOptB (t : T) (i : Int) : kOptB t i = .ok (some i) t := rfl
def kOpt  (x : D) (t : T) : R (Option Int) := ofO (intO x) (kOptB t)
theorem e_kOpt  (x : D) (t : T) : kOpt x t = ofO (intO x) (kOptB t) := rfl
def kCutD (t : T) (l : Option Int) (h : Option Int) (y : D) : R GV := ofO (fCut t.S y l h) (kOk t)
theorem e_kCutD (t : T) (l : Option Int) (h : Option Int) (y : D) : kCutD t l h y = ofO (fCut t.S y l h) (kOk t) := rfl
def kCutC (a : Opd) (x : D) (l : Option Int) (h : Option Int) (t : T) : R GV := ofO (a.late x t) (kCutD t l h)
theorem e_kCutC (a : Opd) (x : D) (l : Option Int) (h : Option Int) (t : T) : kCutC a x l h t = ofO (a.late x t) (kCutD t l h) := rfl
def kCutB (a : Opd) (hi : Option (M GV)) (x : D) (l : Option Int) (t : T) : R GV := (optE hi t).bind (kCutC a x l)
theorem e_kCutB (a : Opd) (hi : Option (M GV)) (x : D) (l : Option Int) (t : T) : kCutB a hi x l t = (optE hi t).bind (kCutC a x l) := rfl
def kCut (a : Opd) (lo : Option (M GV)) (hi : Option (M GV)) (x : D) (t : T) : R GV := (optE lo t).bind (kCutB a hi x)
theorem e_kCut (a : Opd) (lo : Option (M GV)) (hi : Option (M GV)) (x : D) (t : T) : kCut a lo hi x t = (optE lo t).bind (kCutB a hi x) := rfl
def kOkD (t : T) (y : D) : R GV := .ok (.d y) t
theorem e_kOkD (t : T) (y : D) : kOkD t y = .ok (.d y) t := rfl
def kTabB (tab : List (Str × D)) (t : T) (z : Str) : R GV := ofO (tab.lookup z) (kOkD t)
theorem e_kTabB (tab : List (Str × D)) (t : T) (z : Str) : kTabB tab t z = ofO (tab.lookup z) (kOkD t) := rfl
def kTab (tab : List (Str × D)) (x : D) (t : T) : R GV := ofO (strO x) (kTabB tab t)
theorem e_kTab (tab : List (Str × D)) (x : D) (t : T) : kTab tab x t = ofO (strO x) (kTabB tab t) := rfl
def kOkL (t : T) (xs : List D) : R (List D) := .ok xs t
theorem e_kOkL (t : T) (xs : List D) : kOkL t xs = .ok xs t := rfl
def kIVal  (x : D) (t : T) : R (List D) := ofO (seqOf x) (kOkL t)
theorem e_kIVal  (x : D) (t : T) : kIVal x t = ofO (seqOf x) (kOkL t) := rfl
def ivG (i : Nat) (ρ : List (Option GV)) (S : List Ob) (g : GV) : R (List D) := match g with
  | .ob .l xs => .ok xs ⟨ρ.set i (some (.d (.list xs))), S⟩
  | .d x => ofO (seqOf x) (kOkL ⟨ρ, S⟩)
  | _ => .bad
theorem ivG_fl (ρ : List (Option GV)) (S : List Ob) (xs : List D) (i : Nat) : ivG i ρ S (.fl xs) = .ok xs ⟨ρ.set i (some (.d (.list xs))), S⟩ := rfl
theorem ivG_l (ρ : List (Option GV)) (S : List Ob) (xs : List D) (i : Nat) : ivG i ρ S (.d (.list xs)) = .ok xs ⟨ρ, S⟩ := rfl
theorem ivG_t (ρ : List (Option GV)) (S : List Ob) (xs : List D) (i : Nat) : ivG i ρ S (.d (.tuple xs)) = .ok xs ⟨ρ, S⟩ := rfl
def kRg1B (t : T) (n : Int) : R (List D) := if rngB 0 n then .ok (rowI 0 n.toNat) t else .bad
theorem e_kRg1B (t : T) (n : Int) : kRg1B t n = if rngB 0 n then .ok (rowI 0 n.toNat) t else .bad := rfl
def kRg1  (x : D) (t : T) : R (List D) := ofO (intO x) (kRg1B t)
theorem e_kRg1  (x : D) (t : T) : kRg1 x t = ofO (intO x) (kRg1B t) := rfl
def kRg2D (t : T) (a : Int) (b : Int) : R (List D) := if rngB a b then .ok (rowI a (b - a).toNat) t else .bad
theorem e_kRg2D (t : T) (a : Int) (b : Int) : kRg2D t a b = if rngB a b then .ok (rowI a (b - a).toNat) t else .bad := rfl
def kRg2C (t : T) (y : D) (a : Int) : R (List D) := ofO (intO y) (kRg2D t a)
theorem e_kRg2C (t : T) (y : D) (a : Int) : kRg2C t y a = ofO (intO y) (kRg2D t a) := rfl
def kRg2B (x : D) (y : D) (t : T) : R (List D) := ofO (intO x) (kRg2C t y)
theorem e_kRg2B (x : D) (y : D) (t : T) : kRg2B x y t = ofO (intO x) (kRg2C t y) := rfl
def kRg2 (c2 : M GV) (x : D) (t : T) : R (List D) := (vl c2 t).bind (kRg2B x)
theorem e_kRg2 (c2 : M GV) (x : D) (t : T) : kRg2 c2 x t = (vl c2 t).bind (kRg2B x) := rfl
def kZipB (x : D) (y : D) (t : T) : R (List D) := ofO (zipOf x y) (kOkL t)
theorem e_kZipB (x : D) (y : D) (t : T) : kZipB x y t = ofO (zipOf x y) (kOkL t) := rfl
def kZip (b : M GV) (x : D) (t : T) : R (List D) := (vl b t).bind (kZipB x)
theorem e_kZip (b : M GV) (x : D) (t : T) : kZip b x t = (vl b t).bind (kZipB x) := rfl
def kLc (b : GV → M Unit) (cd : M Bool) (el : M GV) (vs : List Nat) (xs : List D) (t : T) : R GV := ofRc (lcL b cd el (hideR t.ρ vs) xs [] t.S) t.ρ
theorem e_kLc (b : GV → M Unit) (cd : M Bool) (el : M GV) (vs : List Nat) (xs : List D) (t : T) : kLc b cd el vs xs t = ofRc (lcL b cd el (hideR t.ρ vs) xs [] t.S) t.ρ := rfl
def kLcC (b : GV → M Unit) (cd : M Bool) (el : M GV) (ρ : List (Option GV)) (xs acc : List D) (y : D) (t : T) : Rc := if acc.length < lim then lcL b cd el ρ xs (acc ++ [y]) t.S else .bad
theorem e_kLcC (b : GV → M Unit) (cd : M Bool) (el : M GV) (ρ : List (Option GV)) (xs acc : List D) (y : D) (t : T) (h : acc.length < 1000000) : kLcC b cd el ρ xs acc y t = lcL b cd el ρ xs (acc ++ [y]) t.S := if_pos h
def kLcB (b : GV → M Unit) (cd : M Bool) (el : M GV) (ρ : List (Option GV)) (xs acc : List D) (k : Bool) (t : T) : Rc := if k = true then RcB (vl el t) (kLcC b cd el ρ xs acc) else lcL b cd el ρ xs acc t.S
theorem e_kLcB1 (b : GV → M Unit) (cd : M Bool) (el : M GV) (ρ : List (Option GV)) (xs acc : List D) (t : T) : kLcB b cd el ρ xs acc true t = RcB (vl el t) (kLcC b cd el ρ xs acc) := rfl
theorem e_kLcB0 (b : GV → M Unit) (cd : M Bool) (el : M GV) (ρ : List (Option GV)) (xs acc : List D) (t : T) : kLcB b cd el ρ xs acc false t = lcL b cd el ρ xs acc t.S := rfl
def kLcA (b : GV → M Unit) (cd : M Bool) (el : M GV) (ρ : List (Option GV)) (xs : List D) (acc : List D) (u : Unit) (t : T) : Rc := RcB (cd t) (kLcB b cd el ρ xs acc)
theorem e_kLcA (b : GV → M Unit) (cd : M Bool) (el : M GV) (ρ : List (Option GV)) (xs : List D) (acc : List D) (u : Unit) (t : T) : kLcA b cd el ρ xs acc u t = RcB (cd t) (kLcB b cd el ρ xs acc) := rfl
def RcO (r : Rc) (k : List D → List Ob → Rc) : Rc := match r with
  | .ok (.ob .l acc') S' => k acc' S'
  | .ok _ _ => .bad
  | .exc x xs S => .exc x xs S
  | .bad => .bad
theorem RcO_ok (S : List Ob) (acc : List D) (k : List D → List Ob → Rc) : RcO (.ok (.fl acc) S) k = k acc S := rfl
def kLc2 (b : GV → M Unit) (cd : M Bool) (src1 : M (List D)) (b1 : GV → M Unit) (cd1 : M Bool) (el : M GV) (vs : List Nat) (vs1 : List Nat) (xs : List D) (t : T) : R GV := ofRc (lcO b cd src1 b1 cd1 el vs1 (hideR t.ρ vs) xs [] t.S) t.ρ
theorem e_kLc2 (b : GV → M Unit) (cd : M Bool) (src1 : M (List D)) (b1 : GV → M Unit) (cd1 : M Bool) (el : M GV) (vs : List Nat) (vs1 : List Nat) (xs : List D) (t : T) : kLc2 b cd src1 b1 cd1 el vs vs1 xs t = ofRc (lcO b cd src1 b1 cd1 el vs1 (hideR t.ρ vs) xs [] t.S) t.ρ := rfl
def kLoD (b : GV → M Unit) (cd : M Bool) (src1 : M (List D)) (b1 : GV → M Unit) (cd1 : M Bool) (el : M GV) (vs1 : List Nat) (ρ : List (Option GV)) (xs : List D) (acc : List D) (S : List Ob) : Rc := lcO b cd src1 b1 cd1 el vs1 ρ xs acc S
theorem e_kLoD (b : GV → M Unit) (cd : M Bool) (src1 : M (List D)) (b1 : GV → M Unit) (cd1 : M Bool) (el : M GV) (vs1 : List Nat) (ρ : List (Option GV)) (xs : List D) (acc : List D) (S : List Ob) : kLoD b cd src1 b1 cd1 el vs1 ρ xs acc S = lcO b cd src1 b1 cd1 el vs1 ρ xs acc S := rfl
def kLoC (b : GV → M Unit) (cd : M Bool) (src1 : M (List D)) (b1 : GV → M Unit) (cd1 : M Bool) (el : M GV) (vs1 : List Nat) (ρ : List (Option GV)) (xs : List D) (acc : List D) (ys : List D) (t : T) : Rc := RcO (lcL b1 cd1 el (hideR t.ρ vs1) ys acc t.S) (kLoD b cd src1 b1 cd1 el vs1 ρ xs)
theorem e_kLoC (b : GV → M Unit) (cd : M Bool) (src1 : M (List D)) (b1 : GV → M Unit) (cd1 : M Bool) (el : M GV) (vs1 : List Nat) (ρ : List (Option GV)) (xs : List D) (acc : List D) (ys : List D) (t : T) : kLoC b cd src1 b1 cd1 el vs1 ρ xs acc ys t = RcO (lcL b1 cd1 el (hideR t.ρ vs1) ys acc t.S) (kLoD b cd src1 b1 cd1 el vs1 ρ xs) := rfl
def kLoB (b : GV → M Unit) (cd : M Bool) (src1 : M (List D)) (b1 : GV → M Unit) (cd1 : M Bool) (el : M GV) (vs1 : List Nat) (ρ : List (Option GV)) (xs acc : List D) (k : Bool) (t : T) : Rc := if k = true then RcB (src1 t) (kLoC b cd src1 b1 cd1 el vs1 ρ xs acc) else lcO b cd src1 b1 cd1 el vs1 ρ xs acc t.S
theorem e_kLoB1 (b : GV → M Unit) (cd : M Bool) (src1 : M (List D)) (b1 : GV → M Unit) (cd1 : M Bool) (el : M GV) (vs1 : List Nat) (ρ : List (Option GV)) (xs acc : List D) (t : T) : kLoB b cd src1 b1 cd1 el vs1 ρ xs acc true t = RcB (src1 t) (kLoC b cd src1 b1 cd1 el vs1 ρ xs acc) := rfl
theorem e_kLoB0 (b : GV → M Unit) (cd : M Bool) (src1 : M (List D)) (b1 : GV → M Unit) (cd1 : M Bool) (el : M GV) (vs1 : List Nat) (ρ : List (Option GV)) (xs acc : List D) (t : T) : kLoB b cd src1 b1 cd1 el vs1 ρ xs acc false t = lcO b cd src1 b1 cd1 el vs1 ρ xs acc t.S := rfl
def kLoA (b : GV → M Unit) (cd : M Bool) (src1 : M (List D)) (b1 : GV → M Unit) (cd1 : M Bool) (el : M GV) (vs1 : List Nat) (ρ : List (Option GV)) (xs : List D) (acc : List D) (u : Unit) (t : T) : Rc := RcB (cd t) (kLoB b cd src1 b1 cd1 el vs1 ρ xs acc)
theorem e_kLoA (b : GV → M Unit) (cd : M Bool) (src1 : M (List D)) (b1 : GV → M Unit) (cd1 : M Bool) (el : M GV) (vs1 : List Nat) (ρ : List (Option GV)) (xs : List D) (acc : List D) (u : Unit) (t : T) : kLoA b cd src1 b1 cd1 el vs1 ρ xs acc u t = RcB (cd t) (kLoB b cd src1 b1 cd1 el vs1 ρ xs acc) := rfl
def kMtC (t : T) (i : Nat) (q : D × List D) : R GV := .ok (.d q.1) (putAt t i q.2)
theorem e_kMtC (t : T) (i : Nat) (q : D × List D) : kMtC t i q = .ok (.d q.1) (putAt t i q.2) := rfl
def kMtB (i : Nat) (f : List Ob → List D → D → Option (D × List D)) (x : D) (t : T) (xs : List D) : R GV := ofO (f t.S xs x) (kMtC t i)
theorem e_kMtB (i : Nat) (f : List Ob → List D → D → Option (D × List D)) (x : D) (t : T) (xs : List D) : kMtB i f x t xs = ofO (f t.S xs x) (kMtC t i) := rfl
def kMtA (i : Nat) (f : List Ob → List D → D → Option (D × List D)) (x : D) (t : T) : R GV := ofO (lstAt t i) (kMtB i f x t)
theorem e_kMtA (i : Nat) (f : List Ob → List D → D → Option (D × List D)) (x : D) (t : T) : kMtA i f x t = ofO (lstAt t i) (kMtB i f x t) := rfl
def kMt0 (i : Nat) (f : List D → Option (D × List D)) (t : T) (xs : List D) : R GV := ofO (f xs) (kMtC t i)
theorem e_kMt0 (i : Nat) (f : List D → Option (D × List D)) (t : T) (xs : List D) : kMt0 i f t xs = ofO (f xs) (kMtC t i) := rfl
def kSetD (t : T) (i : Nat) (g : GV) (xs : List D) (n : Nat) : R Unit := .ok () (putAt t i (xs.set n (toD g)))
theorem e_kSetD (t : T) (i : Nat) (g : GV) (xs : List D) (n : Nat) : kSetD t i g xs n = .ok () (putAt t i (xs.set n (toD g))) := rfl
def kSetC (t : T) (i : Nat) (g : GV) (xs : List D) (j : Int) : R Unit := ofO (ixN xs.length j) (kSetD t i g xs)
theorem e_kSetC (t : T) (i : Nat) (g : GV) (xs : List D) (j : Int) : kSetC t i g xs j = ofO (ixN xs.length j) (kSetD t i g xs) := rfl
def kSetB (t : T) (i : Nat) (g : GV) (k : D) (xs : List D) : R Unit := ofO (intO k) (kSetC t i g xs)
theorem e_kSetB (t : T) (i : Nat) (g : GV) (k : D) (xs : List D) : kSetB t i g k xs = ofO (intO k) (kSetC t i g xs) := rfl
def kSetA (i : Nat) (g : GV) (k : D) (t : T) : R Unit := ofO (lstAt t i) (kSetB t i g k)
theorem e_kSetA (i : Nat) (g : GV) (k : D) (t : T) : kSetA i g k t = ofO (lstAt t i) (kSetB t i g k) := rfl
def kAsG (t : T) (i : Nat) (g : GV) (ys : List D) (n : Nat) : Fl := .nx (putAt t i (ys.set n (toD g)))
theorem e_kAsG (t : T) (i : Nat) (g : GV) (ys : List D) (n : Nat) : kAsG t i g ys n = .nx (putAt t i (ys.set n (toD g))) := rfl
def kAsF (t : T) (i : Nat) (j : Int) (g : GV) (ys : List D) : Fl := ofOF (ixN ys.length j) (kAsG t i g ys)
theorem e_kAsF (t : T) (i : Nat) (j : Int) (g : GV) (ys : List D) : kAsF t i j g ys = ofOF (ixN ys.length j) (kAsG t i g ys) := rfl
def kAsE (t : T) (i : Nat) (j : Int) (g : GV) : Fl := ofOF (lstAt t i) (kAsF t i j g)
theorem e_kAsE (t : T) (i : Nat) (j : Int) (g : GV) : kAsE t i j g = ofOF (lstAt t i) (kAsF t i j g) := rfl
def kAsD (i : Nat) (f : List Ob → D → D → Option GV) (j : Int) (x : D) (y : D) (t : T) : Fl := ofOF (f t.S x y) (kAsE t i j)
theorem e_kAsD (i : Nat) (f : List Ob → D → D → Option GV) (j : Int) (x : D) (y : D) (t : T) : kAsD i f j x y t = ofOF (f t.S x y) (kAsE t i j) := rfl
def kAsC (i : Nat) (f : List Ob → D → D → Option GV) (c : M GV) (t : T) (j : Int) (x : D) : Fl := (vl c t).fl (kAsD i f j x)
theorem e_kAsC (i : Nat) (f : List Ob → D → D → Option GV) (c : M GV) (t : T) (j : Int) (x : D) : kAsC i f c t j x = (vl c t).fl (kAsD i f j x) := rfl
def kAsB (i : Nat) (f : List Ob → D → D → Option GV) (c : M GV) (t : T) (xs : List D) (j : Int) : Fl := ofOF (atI xs j) (kAsC i f c t j)
theorem e_kAsB (i : Nat) (f : List Ob → D → D → Option GV) (c : M GV) (t : T) (xs : List D) (j : Int) : kAsB i f c t xs j = ofOF (atI xs j) (kAsC i f c t j) := rfl
def kAsA (i : Nat) (f : List Ob → D → D → Option GV) (c : M GV) (k : D) (t : T) (xs : List D) : Fl := ofOF (intO k) (kAsB i f c t xs)
theorem e_kAsA (i : Nat) (f : List Ob → D → D → Option GV) (c : M GV) (k : D) (t : T) (xs : List D) : kAsA i f c k t xs = ofOF (intO k) (kAsB i f c t xs) := rfl
def kAs (i : Nat) (f : List Ob → D → D → Option GV) (c : M GV) (k : D) (t : T) : Fl := ofOF (lstAt t i) (kAsA i f c k t)
theorem e_kAs (i : Nat) (f : List Ob → D → D → Option GV) (c : M GV) (k : D) (t : T) : kAs i f c k t = ofOF (lstAt t i) (kAsA i f c k t) := rfl
def kGs (r : List D → M Unit) (xs : List D) (u : Unit) (t : T) : R Unit := r xs t
theorem e_kGs (r : List D → M Unit) (xs : List D) (u : Unit) (t : T) : kGs r xs u t = r xs t := rfl
def fFlIf {α : Type} (b : Bool) (r : R α) : R α := if b then r else .bad
def fSIf (b : Bool) (r : Fl) : Fl := if b then r else .bad
def lstG (S : List Ob) (g : GV) : Option (List D) := match g with
  | .ob .l xs => some xs
  | .d x => (refOf x).bind fun n => match S[n]? with
    | some (.ob .l xs) => some xs
    | _ => none
  | _ => none
def putG' (g : GV) (i : Nat) (xs : List D) (ρ : List (Option GV)) (S : List Ob) : T := match g with
  | .ob .l _ => ⟨ρ.set i (some (.fl xs)), S⟩
  | .d x => (match refOf x with
    | some n => ⟨ρ, S.set n (.lst xs)⟩
    | none => ⟨ρ, S⟩)
  | _ => ⟨ρ, S⟩
def putO (o : Option GV) (i : Nat) (xs : List D) (ρ : List (Option GV)) (S : List Ob) : T := match o with
  | some g => putG' g i xs ρ S
  | none => ⟨ρ, S⟩
def nthD (xs : List D) (i : Nat) : Option D := match xs, i with
  | [], _ => none
  | x :: _, 0 => some x
  | _ :: r, i + 1 => nthD r i
section
variable (t : T) (ρ : List (Option GV)) (S : List Ob)
theorem e_sNil : sNil t = .nx t := rfl
theorem e_sSeq (a b : St') : sSeq a b t = (a t).seq b := rfl
theorem e_sRet (c : M GV) : sRet c t = (c t).fl kRet := rfl
theorem e_sRetN : sRetN t = .rt (.d .none) t := rfl
theorem e_sBrk : sBrk t = .bk t := rfl
theorem e_sCnt : sCnt t = .ct t := rfl
theorem e_sRetV (i : Nat) : sRetV i ⟨ρ, S⟩ = ofOF (slotO ρ i) (kRetV ⟨ρ, S⟩) := by
  unfold sRetV; rw [slotO_eq]; dsimp only
  cases ρ[i]? with
  | none => rfl
  | some o => cases o <;> rfl
theorem e_sIf (c : M Bool) (a b : St') : sIf c a b t = (c t).fl (kIfS a b) := rfl
theorem e_sDrop (c : M GV) : sDrop c t = (c t).fl kNx := rfl
theorem e_sAsg (b : GV → M Unit) (c : M GV) : sAsg b c t = (c t).fl (kAsg b) := rfl
theorem e_sAsg2 (b1 b2 : GV → M Unit) (c : M GV) : sAsg2 b1 b2 c t = (vl c t).fl (kAsg2 b1 b2) := rfl
theorem e_sPar2 (i : Nat) (ki : Kind) (j : Nat) (kj : Kind) (a b : M GV) : sPar2 i ki j kj a b t = (a t).fl (kPar2a i ki j kj b) := rfl
theorem e_sPar3 (i : Nat) (ki : Kind) (j : Nat) (kj : Kind) (l : Nat) (kl : Kind) (a b c : M GV) : sPar3 i ki j kj l kl a b c t = (a t).fl (kPar3a i ki j kj l kl b c) := rfl
theorem e_sFor (src : M (List D)) (b : GV → M Unit) (body : St') : sFor src b body t = (src t).fl (kFor b body) := rfl
theorem fornx_nx (k : T → Fl) : fornx (.nx t) k = k t := rfl
theorem fornx_ct (k : T → Fl) : fornx (.ct t) k = k t := rfl
theorem fornx_bk (k : T → Fl) : fornx (.bk t) k = .nx t := rfl
theorem fornx_rt (g : GV) (k : T → Fl) : fornx (.rt g t) k = .rt g t := rfl
theorem e_forL_nil (b : GV → M Unit) (body : St') : forL b body [] t = .nx t := rfl
theorem e_forL_cons (b : GV → M Unit) (body : St') (x : D) (xs : List D) : forL b body (x :: xs) t = (b (.d x) t).fl (kForB b body xs) := by
  show (b (.d x) t).fl _ = _
  cases b (.d x) t with
  | ok a t1 => show _ = fornx (body t1) _; dsimp only [fl_ok]; unfold fornx; cases body t1 <;> rfl
  | exc => rfl
  | bad => rfl
theorem e_sAug (i : Nat) (k : Kind) (f : List Ob → D → D → Option GV) (c : M GV) (x : D) (h : slotO ρ i = some (.d x)) : sAug i k f c ⟨ρ, S⟩ = (vl c ⟨ρ, S⟩).fl (kAugB i k f x) := by
  rw [slotO_eq] at h
  unfold sAug; dsimp only
  cases e : ρ[i]? with
  | none => rw [e] at h; cases h
  | some o =>
    rw [e] at h
    cases o with
    | none => cases h
    | some g =>
      cases h
      dsimp only
      cases vl c ⟨ρ, S⟩ with
      | ok y t1 => show _ = ofOF (f t1.S x y) _; dsimp only [fl_ok]; cases f t1.S x y <;> rfl
      | exc => rfl
      | bad => rfl
/-! targets -/
theorem e_gOwn (i : Nat) (g : GV) : gNm i .own g ⟨ρ, S⟩ = if i < ρ.length then .ok () ⟨ρ.set i (some g), S⟩ else .bad := rfl
theorem e_gVal (i : Nat) (g : GV) : gNm i .val g ⟨ρ, S⟩ = if i < ρ.length then .ok () ⟨ρ.set i (some (.d (toD g))), S⟩ else .bad := by
  cases g <;> rfl
theorem e_gShareL (i : Nat) (s : Sh) (xs : List D) : gNm i .share (.ob s xs) ⟨ρ, S⟩ = if i < ρ.length then .ok () ⟨ρ.set i (some (.d (dRef S.length))), S ++ [.ob s xs]⟩ else .bad := rfl
theorem e_gShare0 (i : Nat) (s : Sh) (xs : List D) : gNm i .share (.ob s xs) ⟨ρ, []⟩ = if i < ρ.length then .ok () ⟨ρ.set i (some (.d (.dict [(.dict [], .int 0)]))), [.ob s xs]⟩ else .bad := rfl
theorem e_gShareD (i : Nat) (x : D) : gNm i .share (.d x) ⟨ρ, S⟩ = if i < ρ.length then .ok () ⟨ρ.set i (some (.d x)), S⟩ else .bad := rfl
theorem e_gsNil : gsNil [] t = .ok () t := rfl
theorem e_gsCons (b : GV → M Unit) (r : List D → M Unit) (x : D) (xs : List D) : gsCons b r (x :: xs) t = (b (.d x) t).bind (kGs r xs) := rfl
theorem e_gTpT (n : Nat) (b : List D → M Unit) (xs : List D) (h : xs.length = n) : gTp n b (.d (.tuple xs)) t = b xs t := by
  unfold gTp; simp only [toD_d, rowD, h, if_true]
theorem e_gTpL (n : Nat) (b : List D → M Unit) (xs : List D) (h : xs.length = n) : gTp n b (.d (.list xs)) t = b xs t := by
  unfold gTp; simp only [toD_d, rowD, h, if_true]
theorem e_gTpF (n : Nat) (b : List D → M Unit) (xs : List D) (h : xs.length = n) : gTp n b (.fl xs) t = b xs t := by
  unfold gTp; simp only [toD_fl, rowD, h, if_true]
/-! expressions -/
theorem e_cC (x : D) : cC x t = .ok (.d x) t := rfl
theorem e_vl (c : M GV) : vl c t = (c t).bind kToD := rfl
theorem e_cVar (i : Nat) : cVar i ⟨ρ, S⟩ = ofO (slotO ρ i) (cvG i ρ S) := by
  unfold cVar; rw [slotO_eq]; dsimp only
  cases ρ[i]? with
  | none => rfl
  | some o =>
    cases o with
    | none => rfl
    | some g => cases g <;> rfl
theorem e_firstVar (i : Nat) : Opd.first (.var i) ⟨ρ, S⟩ = ofO (slotO ρ i) (kFv ⟨ρ, S⟩) := by
  unfold Opd.first; rw [slotO_eq]; dsimp only
  cases ρ[i]? with
  | none => rfl
  | some o => cases o <;> rfl
theorem e_firstVal (c : M GV) : Opd.first (.val c) t = vl c t := rfl
theorem e_lateVar (i : Nat) (x : D) : Opd.late (.var i) x ⟨ρ, S⟩ = (slotO ρ i).map toD := by
  unfold Opd.late; rw [slotO_eq]; dsimp only
  cases ρ[i]? with
  | none => rfl
  | some o => cases o <;> rfl
theorem e_lateVal (c : M GV) (x : D) : Opd.late (.val c) x t = some x := rfl
theorem e_cOp1 (f : List Ob → D → Option GV) (a : Opd) : cOp1 f a t = (a.first t).bind (kOp1 f a) := by
  unfold cOp1
  congr; funext x t1
  show _ = ofO (a.late x t1) _
  cases a.late x t1 with
  | none => rfl
  | some y => show _ = ofO (f t1.S y) _; dsimp only; cases f t1.S y <;> rfl
theorem e_cOp2 (f : List Ob → D → D → Option GV) (a b : Opd) : cOp2 f a b t = (a.first t).bind (kOp2a f a b) := by
  unfold cOp2
  congr; funext x t1
  show _ = (b.first t1).bind _
  congr; funext y t2
  show _ = ofO (a.late x t2) _
  cases a.late x t2 with
  | none => rfl
  | some x' =>
    show _ = ofO (b.late y t2) _
    cases b.late y t2 with
    | none => rfl
    | some y' => show _ = ofO (f t2.S x' y') _; dsimp only; cases f t2.S x' y' <;> rfl
theorem e_aNil : aNil t = .ok [] t := rfl
theorem e_aCons (c : M GV) (r : M (List D)) : aCons c r t = (vl c t).bind (kCons r) := rfl
theorem e_aStar (a : Opd) (r : M (List D)) : aStar a r t = (a.first t).bind (kStar a r) := by
  unfold aStar
  congr; funext x t1
  show _ = ofO (a.late x t1) _
  cases a.late x t1 with
  | none => rfl
  | some y => show _ = ofO (itemsOf t1.S y) _; dsimp only; cases itemsOf t1.S y <;> rfl
theorem e_cTup (as : M (List D)) : cTup as t = (as t).bind kTup := rfl
theorem e_cLst (as : M (List D)) : cLst as t = (as t).bind kLst := rfl
theorem e_cCall (call : Calls) (i : Nat) (as : M (List D)) : cCall call i as t = (as t).bind (kCall call i) := rfl
theorem e_cCallV (call : Calls) (c : M GV) (as : M (List D)) : cCallV call c as t = (vl c t).bind (kCallV call as) := by
  unfold cCallV
  congr; funext f t1
  show _ = ofO (fnOf? f) _
  cases fnOf? f <;> rfl
theorem e_fnOf (n : Nat) : fnOf? (.dict [(.none, .int (n : Int))]) = some n := rfl
theorem e_fnOf_ (n : Nat) : fnOf? (.dict [(.none, .int (OfNat.ofNat n))]) = some (OfNat.ofNat n) := rfl
theorem e_cIf (c : M Bool) (a b : M GV) : cIf c a b t = (c t).bind (kIfE a b) := rfl
theorem e_tB (c : M GV) : tB c t = (c t).bind kTB := by
  unfold tB
  refine congrArg _ ?_
  funext g t1
  cases g with
  | d x => cases x <;> rfl
  | ob s xs => rfl
theorem e_tTru (a : Opd) : tTru a t = (a.first t).bind (kTru a) := by
  unfold tTru
  congr; funext x t1
  show _ = ofO (a.late x t1) _
  cases a.late x t1 with
  | none => rfl
  | some y => show _ = ofO (truD t1.S y) _; dsimp only; cases truD t1.S y <;> rfl
theorem e_cNotM (a : Opd) : cNotM a t = (tTru a t).bind kNotM := rfl
theorem e_tNotM (c : M Bool) : tNotM c t = (c t).bind kTNot := rfl
theorem e_tru1 (c : M GV) : tru1 c t = (vl c t).bind kTru1 := by
  unfold tru1
  congr; funext x t1
  show _ = ofO (truD t1.S x) _
  cases truD t1.S x <;> rfl
theorem e_cAnd1 (c : M GV) : cAndM [c] t = c t := rfl
theorem e_cAnd2 (c d : M GV) (cs : List (M GV)) : cAndM (c :: d :: cs) t = (tru1 c t).bind (kAndE (d :: cs)) := rfl
theorem e_cOr1 (c : M GV) : cOrM [c] t = c t := rfl
theorem e_cOr2 (c d : M GV) (cs : List (M GV)) : cOrM (c :: d :: cs) t = (tru1 c t).bind (kOrE (d :: cs)) := rfl
theorem e_tAnd1 (c : M Bool) : tAndM [c] t = c t := rfl
theorem e_tAnd2 (c d : M Bool) (cs : List (M Bool)) : tAndM (c :: d :: cs) t = (c t).bind (ktAnd (d :: cs)) := rfl
theorem e_tOr1 (c : M Bool) : tOrM [c] t = c t := rfl
theorem e_tOr2 (c d : M Bool) (cs : List (M Bool)) : tOrM (c :: d :: cs) t = (c t).bind (ktOr (d :: cs)) := rfl
theorem e_tYes : tYesM t = .ok true t := rfl
/-- parts -/
theorem e_optN : optE none t = .ok none t := rfl
theorem e_optS (c : M GV) : optE (some c) t = (vl c t).bind kOpt := by
  show (vl c t).bind _ = _
  congr; funext x t1
  cases x <;> rfl
theorem e_cCut (a : Opd) (lo hi : Option (M GV)) : cCut a lo hi t = (a.first t).bind (kCut a lo hi) := by
  unfold cCut
  congr; funext x t1
  show _ = (optE lo t1).bind _
  congr; funext l t2
  show _ = (optE hi t2).bind _
  congr; funext h t3
  show _ = ofO (a.late x t3) _
  cases a.late x t3 with
  | none => rfl
  | some y => show _ = ofO (fCut t3.S y l h) _; dsimp only; cases fCut t3.S y l h <;> rfl
theorem e_cTab (tab : List (Str × D)) (c : M GV) : cTab tab c t = (vl c t).bind (kTab tab) := by
  unfold cTab
  congr; funext x t1
  show _ = ofO (strO x) _
  cases x with
  | str z => show _ = ofO (tab.lookup z) _; dsimp only; cases tab.lookup z <;> rfl
  | _ => rfl
/-- sources -/
theorem e_iVal (c : M GV) : iVal c t = (vl c t).bind kIVal := by
  unfold iVal
  congr; funext x t1
  show _ = ofO (seqOf x) _
  cases seqOf x <;> rfl
theorem e_iVar (i : Nat) : iVar i ⟨ρ, S⟩ = ofO (slotO ρ i) (ivG i ρ S) := by
  unfold iVar; rw [slotO_eq]; dsimp only
  cases ρ[i]? with
  | none => rfl
  | some o =>
    cases o with
    | none => rfl
    | some g =>
      cases g with
      | d x => dsimp only [Option.join, ofO, ivG]; cases e : seqOf x <;> simp [e, ofO, ivG, Option.join, kOkL]
      | ob s xs => cases s <;> rfl
theorem e_seqL (xs : List D) : seqOf (.list xs) = some xs := rfl
theorem e_seqT (xs : List D) : seqOf (.tuple xs) = some xs := rfl
theorem e_iRange1 (c : M GV) : iRange1 c t = (vl c t).bind kRg1 := by
  unfold iRange1
  congr; funext x t1
  cases x <;> rfl
theorem e_iRange2 (c c' : M GV) : iRange2 c c' t = (vl c t).bind (kRg2 c') := by
  unfold iRange2
  congr; funext x t1
  show _ = (vl c' t1).bind _
  congr; funext y t2
  cases x <;> (try rfl) <;> cases y <;> rfl
theorem e_intO (i : Int) : intO (.int i) = some i := rfl
theorem e_strO (i : Str) : strO (.str i) = some i := rfl
theorem e_iZipM (a b : M GV) : iZipM a b t = (vl a t).bind (kZip b) := by
  unfold iZipM
  congr; funext x t1
  show _ = (vl b t1).bind _
  congr; funext y t2
  show _ = ofO (zipOf x y) _
  cases zipOf x y <;> rfl
theorem e_zipL (xs ys : List D) : zipOf (.list xs) (.list ys) = some (pairs xs ys) := rfl
theorem e_zipT (xs ys : List D) : zipOf (.tuple xs) (.tuple ys) = some (pairs xs ys) := rfl
theorem e_pairs (x y : D) (xs ys : List D) : pairs (x :: xs) (y :: ys) = .tuple [x, y] :: pairs xs ys := rfl
theorem e_pairs0 (ys : List D) : pairs [] ys = [] := rfl
theorem e_cLc (src : M (List D)) (b : GV → M Unit) (cd : M Bool) (el : M GV) (vs : List Nat) : cLc src b cd el vs t = (src t).bind (kLc b cd el vs) := rfl
theorem e_lcN (b : GV → M Unit) (cd : M Bool) (el : M GV) (acc : List D) : lcL b cd el ρ [] acc S = .ok (.fl acc) S := rfl
theorem e_lcC (b : GV → M Unit) (cd : M Bool) (el : M GV) (x : D) (xs acc : List D) : lcL b cd el ρ (x :: xs) acc S = RcB (b (.d x) ⟨ρ, S⟩) (kLcA b cd el ρ xs acc) := by
  show (match b (.d x) ⟨ρ, S⟩ with | .ok _ t1 => _ | .exc x xs t => _ | .bad => _) = _
  cases b (.d x) ⟨ρ, S⟩ with
  | ok u t1 =>
    show _ = RcB (cd t1) _
    dsimp only
    cases cd t1 with
    | ok k t2 =>
      cases k with
      | false => rfl
      | true =>
        show _ = RcB (vl el t2) _
        simp only [if_true]
        cases vl el t2 <;> rfl
    | exc => rfl
    | bad => rfl
  | exc => rfl
  | bad => rfl
theorem e_cLc2 (src : M (List D)) (b : GV → M Unit) (cd : M Bool) (src1 : M (List D)) (b1 : GV → M Unit) (cd1 : M Bool) (el : M GV) (vs vs1 : List Nat) : cLc2 src b cd src1 b1 cd1 el vs vs1 t = (src t).bind (kLc2 b cd src1 b1 cd1 el vs vs1) := rfl
theorem e_loN (b : GV → M Unit) (cd : M Bool) (src1 : M (List D)) (b1 : GV → M Unit) (cd1 : M Bool) (el : M GV) (vs1 : List Nat) (acc : List D) : lcO b cd src1 b1 cd1 el vs1 ρ [] acc S = .ok (.fl acc) S := rfl
theorem e_loC (b : GV → M Unit) (cd : M Bool) (src1 : M (List D)) (b1 : GV → M Unit) (cd1 : M Bool) (el : M GV) (vs1 : List Nat) (x : D) (xs acc : List D) : lcO b cd src1 b1 cd1 el vs1 ρ (x :: xs) acc S = RcB (b (.d x) ⟨ρ, S⟩) (kLoA b cd src1 b1 cd1 el vs1 ρ xs acc) := by
  show (match b (.d x) ⟨ρ, S⟩ with | .ok _ t1 => _ | .exc x xs t => _ | .bad => _) = _
  cases b (.d x) ⟨ρ, S⟩ with
  | ok u t1 =>
    show _ = RcB (cd t1) _
    dsimp only
    cases cd t1 with
    | ok k t2 =>
      cases k with
      | false => rfl
      | true =>
        show _ = RcB (src1 t2) _
        simp only [if_true]
        cases src1 t2 with
        | ok ys t3 =>
          show _ = RcO (lcL b1 cd1 el (hideR t3.ρ vs1) ys acc t3.S) _
          dsimp only
          cases lcL b1 cd1 el (hideR t3.ρ vs1) ys acc t3.S with
          | ok g S' =>
            cases g with
            | d => rfl
            | ob s zs => cases s <;> rfl
          | exc => rfl
          | bad => rfl
        | exc => rfl
        | bad => rfl
    | exc => rfl
    | bad => rfl
  | exc => rfl
  | bad => rfl
/-! lists that change -/
theorem e_cMt1 (i : Nat) (f : List Ob → List D → D → Option (D × List D)) (c : M GV) : cMt1 i f c t = fFlIf (lstAt t i).isSome ((vl c t).bind (kMtA i f)) := by
  unfold cMt1 fFlIf
  split
  · congr; funext x t1
    show _ = ofO (lstAt t1 i) _
    cases lstAt t1 i with
    | none => rfl
    | some xs => show _ = ofO (f t1.S xs x) _; dsimp only; cases f t1.S xs x <;> rfl
  · rfl
theorem e_fFlIf {α : Type} (r : R α) : fFlIf true r = r := rfl
theorem e_fSIf (r : Fl) : fSIf true r = r := rfl
theorem e_cMt0 (i : Nat) (f : List D → Option (D × List D)) : cMt0 i f t = ofO (lstAt t i) (kMt0 i f t) := by
  unfold cMt0
  cases lstAt t i with
  | none => rfl
  | some xs => show _ = ofO (f xs) _; dsimp only; cases f xs <;> rfl
theorem e_gSet (i : Nat) (c : M GV) (g : GV) : gSet i c g t = fFlIf (lstAt t i).isSome ((vl c t).bind (kSetA i g)) := by
  unfold gSet fFlIf
  refine ite_congr rfl (fun _ => ?_) (fun _ => rfl)
  congr; funext k t1
  show _ = ofO (lstAt t1 i) _
  cases lstAt t1 i with
  | none => rfl
  | some xs =>
    show _ = ofO (intO k) _
    cases k with
    | int j => show _ = ofO (ixN xs.length j) _; dsimp only; cases ixN xs.length j <;> rfl
    | _ => rfl
theorem e_sAugS (i : Nat) (f : List Ob → D → D → Option GV) (ci c : M GV) : sAugS i f ci c t = fSIf (lstAt t i).isSome ((vl ci t).fl (kAs i f c)) := by
  unfold sAugS fSIf
  refine ite_congr rfl (fun _ => ?_) (fun _ => rfl)
  congr; funext k t1
  show _ = ofOF (lstAt t1 i) _
  cases lstAt t1 i with
  | none => rfl
  | some xs =>
    show _ = ofOF (intO k) _
    cases k with
    | int j =>
      show _ = ofOF (atI xs j) _
      dsimp only
      cases atI xs j with
      | none => rfl
      | some x =>
        show _ = (vl c t1).fl _
        dsimp only
        congr; funext y t2
        show _ = ofOF (f t2.S x y) _
        cases f t2.S x y with
        | none => rfl
        | some g =>
          show _ = ofOF (lstAt t2 i) _
          cases lstAt t2 i with
          | none => rfl
          | some ys => show _ = ofOF (ixN ys.length j) _; dsimp only; cases ixN ys.length j <;> rfl
    | _ => rfl
theorem e_lstAt (i : Nat) : lstAt ⟨ρ, S⟩ i = (slotO ρ i).bind (lstG S) := by
  unfold lstAt; rw [slotO_eq]; dsimp only
  cases ρ[i]? with
  | none => rfl
  | some o =>
    cases o with
    | none => rfl
    | some g =>
      cases g with
      | d x => rfl
      | ob s xs => cases s <;> rfl
theorem e_lstFl (xs : List D) : lstG S (.fl xs) = some xs := rfl
theorem e_lstRef0 (xs : List D) : lstG (.lst xs :: S) (.d (.dict [(.dict [], .int 0)])) = some xs := rfl
theorem e_putAt (i : Nat) (xs : List D) : putAt ⟨ρ, S⟩ i xs = putO (slotO ρ i) i xs ρ S := by
  unfold putAt; rw [slotO_eq]; dsimp only
  cases e : ρ[i]? with
  | none => rfl
  | some o =>
    cases o with
    | none => rfl
    | some g =>
      cases g with
      | d x => rfl
      | ob s ys => cases s <;> rfl
theorem putO_fl (i : Nat) (ys xs : List D) : putO (some (.fl ys)) i xs ρ S = ⟨ρ.set i (some (.fl xs)), S⟩ := rfl
theorem putO_ref0 (i : Nat) (xs : List D) (o : Ob) : putO (some (.d (.dict [(.dict [], .int 0)]))) i xs ρ (o :: S) = ⟨ρ, .lst xs :: S⟩ := rfl
theorem e_endRt (g : GV) : endRc (.rt g t) = .ok g t.S := rfl
theorem e_endNx : endRc (.nx t) = .ok (.d .none) t.S := rfl
end
theorem le_lim {n : Nat} (h : n ≤ 1000000) : (n ≤ lim) = True := eq_true h
theorem lt_lim {n : Nat} (h : n < 1000000) : (n < lim) = True := eq_true h
/-! operators -/
section
variable (S : List Ob) (i j : Int)
theorem e_add : fAdd S (.int i) (.int j) = some (.d (.int (i + j))) := rfl
theorem e_addT (xs ys : List D) (h : xs.length + ys.length ≤ 1000000) : fAdd S (.tuple xs) (.tuple ys) = some (.d (.tuple (xs ++ ys))) := if_pos h
theorem e_addL (xs ys : List D) (h : xs.length + ys.length ≤ 1000000) : fAdd S (.list xs) (.list ys) = some (.fl (xs ++ ys)) := if_pos h
theorem e_sub : fSub S (.int i) (.int j) = some (.d (.int (i - j))) := rfl
theorem e_mul : fMul S (.int i) (.int j) = if cMulB i j then some (.d (.int (i * j))) else none := rfl
theorem e_div : fDiv S (.int i) (.int j) = if cDivB i j then some (.d (.int (i / j))) else none := rfl
theorem e_mod : fMod S (.int i) (.int j) = if cModB i j then some (.d (.int (i % j))) else none := rfl
theorem e_pow : fPow S (.int i) (.int j) = if cPowB i j then some (.d (.int (i ^ j.toNat))) else none := rfl
theorem e_shl : fShl S (.int i) (.int j) = if cPowB i j then some (.d (.int (i * 2 ^ j.toNat))) else none := rfl
theorem e_shr : fShr S (.int i) (.int j) = if cShrB i j then some (.d (.int (i / 2 ^ j.toNat))) else none := rfl
theorem e_lt : fLt S (.int i) (.int j) = some (.d (.bool (decide (i < j)))) := rfl
theorem e_le : fLe S (.int i) (.int j) = some (.d (.bool (decide (i ≤ j)))) := rfl
theorem e_gt : fGt S (.int i) (.int j) = some (.d (.bool (decide (j < i)))) := rfl
theorem e_ge : fGe S (.int i) (.int j) = some (.d (.bool (decide (j ≤ i)))) := rfl
theorem e_abs : fAbs S (.int i) = some (.d (.int (if i < 0 then -i else i))) := rfl
theorem e_neg : fNeg S (.int i) = some (.d (.int (-i))) := rfl
theorem e_int1 : fInt1 S (.int i) = some (.d (.int i)) := rfl
theorem e_addI : fInt (fun _ _ => true) (fun i j => .int (i + j)) S (.int i) (.int j) = some (.d (.int (i + j))) := rfl
theorem e_subI : fInt (fun _ _ => true) (fun i j => .int (i - j)) S (.int i) (.int j) = some (.d (.int (i - j))) := rfl
theorem e_truB (b : Bool) : truD S (.bool b) = some b := rfl
theorem e_truI : truD S (.int i) = some (i != 0) := rfl
theorem e_truL (xs : List D) : truD S (.list xs) = some (!xs.isEmpty) := rfl
theorem e_truT (xs : List D) : truD S (.tuple xs) = some (!xs.isEmpty) := rfl
theorem e_itT (xs : List D) : itemsOf S (.tuple xs) = some xs := rfl
theorem e_itL (xs : List D) : itemsOf S (.list xs) = some xs := rfl
theorem e_lenT (xs : List D) : fLen S (.tuple xs) = some (.d (.int xs.length)) := rfl
theorem e_lenL (xs : List D) : fLen S (.list xs) = some (.d (.int xs.length)) := rfl
theorem e_tupT (xs : List D) : fTuple S (.tuple xs) = some (.d (.tuple xs)) := rfl
theorem e_tupL (xs : List D) : fTuple S (.list xs) = some (.d (.tuple xs)) := rfl
theorem e_appd (xs : List D) (x : D) (h : xs.length < 1000000) : fAppend S xs x = some (.none, xs ++ [x]) := if_pos h
theorem e_eqI : fEq S (.int i) (.int j) = some (.d (.bool (decide (i = j)))) := by
  show (if eqB (.int i) (.int j) = true then some (GV.d (.bool (i == j))) else none) = _
  rw [if_pos (by simp [eqB, PyData.plain, PyData.depth])]; rfl
theorem e_neI : fNe S (.int i) (.int j) = some (.d (.bool (!decide (i = j)))) := by
  show (if eqB (.int i) (.int j) = true then some (GV.d (.bool (!(i == j)))) else none) = _
  rw [if_pos (by simp [eqB, PyData.plain, PyData.depth])]; rfl
theorem e_eqS (x y : Str) : fEq S (.str x) (.str y) = some (.d (.bool (x == y))) := by
  show (if eqB (.str x) (.str y) = true then some (GV.d (.bool (x == y))) else none) = _
  rw [if_pos (by simp [eqB, PyData.plain, PyData.depth])]
theorem e_eqB (x y : Bool) : fEq S (.bool x) (.bool y) = some (.d (.bool (x == y))) := by
  show (if eqB (.bool x) (.bool y) = true then some (GV.d (.bool (x == y))) else none) = _
  rw [if_pos (by simp [eqB, PyData.plain, PyData.depth])]
theorem e_neB (x y : Bool) : fNe S (.bool x) (.bool y) = some (.d (.bool (!(x == y)))) := by
  show (if eqB (.bool x) (.bool y) = true then some (GV.d (.bool (!(x == y)))) else none) = _
  rw [if_pos (by simp [eqB, PyData.plain, PyData.depth])]
theorem p1018 : fPow S (.int 10) (.int 18) = some (.d (.int 1000000000000000000)) := rfl
theorem p1012 : fPow S (.int 10) (.int 12) = some (.d (.int 1000000000000)) := rfl
theorem p109 : fPow S (.int 10) (.int 9) = some (.d (.int 1000000000)) := rfl
theorem log2S {i : Int} (h : -1152921504606846976 ≤ i ∧ i ≤ 1152921504606846976) : i.natAbs.log2 ≤ 61 := by
  have : i.natAbs < 2 ^ 61 := by omega
  rcases Nat.eq_zero_or_pos i.natAbs with e | e
  · rw [e, Nat.log2_zero]; omega
  · exact Nat.le_of_lt ((Nat.log2_lt (by omega)).mpr this)
theorem cMulS {i j : Int} (h : -1152921504606846976 ≤ i ∧ i ≤ 1152921504606846976) (k : -1152921504606846976 ≤ j ∧ j ≤ 1152921504606846976) : cMulB i j = true := by
  have := log2S h
  have := log2S k
  exact decide_eq_true (by omega)
theorem cDivS {i j : Int} (h : 0 < j ∧ j ≤ 1152921504606846976) : cDivB i j = true := by
  have := log2S (i := j) (by omega)
  unfold cDivB
  rw [decide_eq_true h.1, decide_eq_true (by omega)]; rfl
theorem cModP {i j : Int} (h : 0 < j) : cModB i j = true := decide_eq_true h
theorem nthD_eq : ∀ (xs : List D) (i : Nat), nthD xs i = xs[i]?
  | [], _ => rfl
  | x :: _, 0 => rfl
  | _ :: r, i + 1 => by simp [nthD, nthD_eq r i]
theorem nthD_0 (x : D) (r : List D) : nthD (x :: r) 0 = some x := rfl
theorem nthD_s (x : D) (r : List D) (i : Nat) : nthD (x :: r) (i + 1) = nthD r i := rfl
theorem atI_nat (xs : List D) (n : Nat) : atI xs (n : Int) = nthD xs n := by
  rw [nthD_eq]
  unfold atI ixN
  simp only [Int.natCast_nonneg, if_true]
  by_cases h : n < xs.length
  · simp [h]
  · simp [h, List.getElem?_eq_none (Nat.le_of_not_lt h)]
theorem e_ixT (xs : List D) (n : Nat) : fIx S (.tuple xs) (.int (n : Int)) = (nthD xs n).map GV.d := by
  show (atI xs (n : Int)).map GV.d = _
  rw [atI_nat]
theorem e_ixL (xs : List D) (n : Nat) : fIx S (.list xs) (.int (n : Int)) = (nthD xs n).map GV.d := by
  show (atI xs (n : Int)).map GV.d = _
  rw [atI_nat]
theorem e_ixT0 (xs : List D) : fIx S (.tuple xs) (.int 0) = (nthD xs 0).map GV.d := e_ixT S xs 0
theorem e_ixT1 (xs : List D) : fIx S (.tuple xs) (.int 1) = (nthD xs 1).map GV.d := e_ixT S xs 1
theorem e_ixT2 (xs : List D) : fIx S (.tuple xs) (.int 2) = (nthD xs 2).map GV.d := e_ixT S xs 2
theorem e_ixT3 (xs : List D) : fIx S (.tuple xs) (.int 3) = (nthD xs 3).map GV.d := e_ixT S xs 3
theorem e_ixT4 (xs : List D) : fIx S (.tuple xs) (.int 4) = (nthD xs 4).map GV.d := e_ixT S xs 4
theorem e_ixT5 (xs : List D) : fIx S (.tuple xs) (.int 5) = (nthD xs 5).map GV.d := e_ixT S xs 5
theorem e_ixT6 (xs : List D) : fIx S (.tuple xs) (.int 6) = (nthD xs 6).map GV.d := e_ixT S xs 6
theorem e_ixT7 (xs : List D) : fIx S (.tuple xs) (.int 7) = (nthD xs 7).map GV.d := e_ixT S xs 7
theorem e_ixL0 (xs : List D) : fIx S (.list xs) (.int 0) = (nthD xs 0).map GV.d := e_ixL S xs 0
theorem e_ixL1 (xs : List D) : fIx S (.list xs) (.int 1) = (nthD xs 1).map GV.d := e_ixL S xs 1
theorem e_ixL2 (xs : List D) : fIx S (.list xs) (.int 2) = (nthD xs 2).map GV.d := e_ixL S xs 2
theorem e_ixL3 (xs : List D) : fIx S (.list xs) (.int 3) = (nthD xs 3).map GV.d := e_ixL S xs 3
theorem e_ixL4 (xs : List D) : fIx S (.list xs) (.int 4) = (nthD xs 4).map GV.d := e_ixL S xs 4
theorem e_ixL5 (xs : List D) : fIx S (.list xs) (.int 5) = (nthD xs 5).map GV.d := e_ixL S xs 5
theorem e_ixL6 (xs : List D) : fIx S (.list xs) (.int 6) = (nthD xs 6).map GV.d := e_ixL S xs 6
theorem e_ixL7 (xs : List D) : fIx S (.list xs) (.int 7) = (nthD xs 7).map GV.d := e_ixL S xs 7
theorem e_ixR00 (xs : List D) : fIx (.lst xs :: S) (.dict [(.dict [], .int 0)]) (.int 0) = (nthD xs 0).map GV.d := by
  show (atI xs ((0 : Nat) : Int)).map GV.d = _
  rw [atI_nat]
theorem e_ixR01 (xs : List D) : fIx (.lst xs :: S) (.dict [(.dict [], .int 0)]) (.int 1) = (nthD xs 1).map GV.d := by
  show (atI xs ((1 : Nat) : Int)).map GV.d = _
  rw [atI_nat]
theorem e_ixR02 (xs : List D) : fIx (.lst xs :: S) (.dict [(.dict [], .int 0)]) (.int 2) = (nthD xs 2).map GV.d := by
  show (atI xs ((2 : Nat) : Int)).map GV.d = _
  rw [atI_nat]
theorem e_ixR03 (xs : List D) : fIx (.lst xs :: S) (.dict [(.dict [], .int 0)]) (.int 3) = (nthD xs 3).map GV.d := by
  show (atI xs ((3 : Nat) : Int)).map GV.d = _
  rw [atI_nat]
theorem e_map {α β : Type} (f : α → β) (x : α) : (some x).map f = some (f x) := rfl
theorem e_atI0 (xs : List D) : atI xs (0 : Int) = nthD xs 0 := atI_nat xs 0
theorem e_atI1 (xs : List D) : atI xs (1 : Int) = nthD xs 1 := atI_nat xs 1
theorem e_atI2 (xs : List D) : atI xs (2 : Int) = nthD xs 2 := atI_nat xs 2
theorem e_atI3 (xs : List D) : atI xs (3 : Int) = nthD xs 3 := atI_nat xs 3
theorem ixN_of (m n : Nat) (h : n < m) : ixN m (n : Int) = some n := by
  show (if (0 : Int) ≤ (n : Int) then (if (n : Int) < m then some (n : Int).toNat else none) else _) = some n
  rw [if_pos (by omega), if_pos (by omega)]; rfl
theorem e_ixN0 (m : Nat) (h : 0 < m) : ixN m (0 : Int) = some 0 := ixN_of m 0 h
theorem e_ixN1 (m : Nat) (h : 1 < m) : ixN m (1 : Int) = some 1 := ixN_of m 1 h
theorem e_ixN2 (m : Nat) (h : 2 < m) : ixN m (2 : Int) = some 2 := ixN_of m 2 h
theorem e_ixN3 (m : Nat) (h : 3 < m) : ixN m (3 : Int) = some 3 := ixN_of m 3 h
theorem cutFrom_of (xs : List D) (n : Nat) (h : n ≤ xs.length) : cutD xs (some (n : Int)) none = xs.drop n := by
  have h : n ≤ xs.length := h
  show (xs.drop (HT.sIx xs.length 0 (some (n : Int)))).take (xs.length - HT.sIx xs.length 0 (some (n : Int))) = xs.drop n
  rw [HT.sIx_nat, Nat.min_eq_left h, List.take_of_length_le (by simp)]
theorem cut_from0 (xs : List D) (h : 0 ≤ xs.length) : cutD xs (some (0 : Int)) none = xs.drop 0 := cutFrom_of xs 0 h
theorem cut_from1 (xs : List D) (h : 1 ≤ xs.length) : cutD xs (some (1 : Int)) none = xs.drop 1 := cutFrom_of xs 1 h
theorem cut_from2 (xs : List D) (h : 2 ≤ xs.length) : cutD xs (some (2 : Int)) none = xs.drop 2 := cutFrom_of xs 2 h
theorem cut_from3 (xs : List D) (h : 3 ≤ xs.length) : cutD xs (some (3 : Int)) none = xs.drop 3 := cutFrom_of xs 3 h
theorem cutTo_of (xs : List D) (n : Nat) (h : n ≤ xs.length) : cutD xs none (some (n : Int)) = xs.take n := by
  have h : n ≤ xs.length := h
  show (xs.drop 0).take (HT.sIx xs.length xs.length (some (n : Int)) - 0) = xs.take n
  rw [HT.sIx_nat, Nat.min_eq_left h, List.drop_zero, Nat.sub_zero]
theorem cut_to0 (xs : List D) (h : 0 ≤ xs.length) : cutD xs none (some (0 : Int)) = xs.take 0 := cutTo_of xs 0 h
theorem cut_to1 (xs : List D) (h : 1 ≤ xs.length) : cutD xs none (some (1 : Int)) = xs.take 1 := cutTo_of xs 1 h
theorem cut_to2 (xs : List D) (h : 2 ≤ xs.length) : cutD xs none (some (2 : Int)) = xs.take 2 := cutTo_of xs 2 h
theorem cut_to3 (xs : List D) (h : 3 ≤ xs.length) : cutD xs none (some (3 : Int)) = xs.take 3 := cutTo_of xs 3 h
theorem e_cutT (xs : List D) (l h : Option Int) : fCut S (.tuple xs) l h = some (.d (.tuple (cutD xs l h))) := rfl
theorem e_cutL (xs : List D) (l h : Option Int) : fCut S (.list xs) l h = some (.fl (cutD xs l h)) := rfl
theorem hide_d (x : D) (r : List (Option GV)) (vs : List Nat) : hideR r vs = wipeR (r.map hideG) vs := rfl
theorem wipe_n (r : List (Option GV)) : wipeR r [] = r := rfl
theorem wipe_c (r : List (Option GV)) (v : Nat) (vs : List Nat) : wipeR r (v :: vs) = (wipeR r vs).set v none := rfl
theorem hideG_d (x : D) : hideG (some (.d x)) = some (.d x) := rfl
theorem hideG_o (s : Sh) (xs : List D) : hideG (some (.ob s xs)) = none := rfl
theorem hideG_n : hideG none = none := rfl
end
end Mi

set_option linter.all false
namespace K03
/-! KM: rational numbers: their sizes, least and greatest, powers. -/
class Bt (q : Rat) (n : outParam Nat) : Prop where
  nm : q.num.natAbs < 2 ^ n
  dn : q.den < 2 ^ n
theorem mk_num_le (n : Int) (d : Nat) (h : d ≠ 0) : (mkRat n d).num.natAbs ≤ n.natAbs := by
  rw [Rat.num_mkRat, if_neg h]
  exact Int.natAbs_ediv_le_natAbs _ _
theorem mk_den_le (n : Int) (d : Nat) (h : d ≠ 0) : (mkRat n d).den ≤ d := by
  rw [Rat.den_mkRat, if_neg h]; exact Nat.div_le_self _ _
theorem Bt.mk_ {n : Int} {d k : Nat} (h0 : d ≠ 0) (h1 : n.natAbs < 2 ^ k) (h2 : d < 2 ^ k) : Bt (mkRat n d) k :=
  ⟨Nat.lt_of_le_of_lt (mk_num_le n d h0) h1, Nat.lt_of_le_of_lt (mk_den_le n d h0) h2⟩
theorem mul_lt {a b n m : Nat} (h : a < 2 ^ n) (k : b < 2 ^ m) : a * b < 2 ^ (n + m) := by
  rw [Nat.pow_add]
  rcases Nat.eq_zero_or_pos b with rfl | hb
  · exact Nat.mul_pos (by omega) (by omega)
  · exact Nat.lt_of_lt_of_le (Nat.mul_lt_mul_of_pos_right h hb) (Nat.mul_le_mul_left _ (by omega))
theorem Bt.le {q : Rat} {n m : Nat} (h : Bt q n) (k : n ≤ m) : Bt q m :=
  ⟨Nat.lt_of_lt_of_le h.nm (Nat.pow_le_pow_right (by decide) k), Nat.lt_of_lt_of_le h.dn (Nat.pow_le_pow_right (by decide) k)⟩
section
variable {p q : Rat} {n m : Nat}
theorem lt_succ2 {a n : Nat} (h : a < 2 ^ n) : a < 2 ^ (n + 1) := by rw [Nat.pow_succ]; omega
theorem sum_lt {a b c d : Int} {n m : Nat} (h1 : a.natAbs * d.natAbs < 2 ^ (n + m)) (h2 : c.natAbs * b.natAbs < 2 ^ (n + m)) : (a * d + c * b).natAbs < 2 ^ (n + m + 1) ∧ (a * d - c * b).natAbs < 2 ^ (n + m + 1) := by
  rw [← Int.natAbs_mul] at h1 h2
  rw [Nat.pow_succ]
  omega
instance instBtAdd [h : Bt p n] [k : Bt q m] : Bt (p + q) (n + m + 1) := by
  rw [Rat.add_def']
  have h1 := mul_lt h.nm k.dn
  have h2 := mul_lt k.nm h.dn
  rw [Nat.add_comm m n] at h2
  exact .mk_ (Nat.mul_ne_zero p.den_nz q.den_nz) (sum_lt (b := p.den) (d := q.den) h1 h2).1 (lt_succ2 (mul_lt h.dn k.dn))
instance instBtSub [h : Bt p n] [k : Bt q m] : Bt (p - q) (n + m + 1) := by
  rw [Rat.sub_def']
  have h1 := mul_lt h.nm k.dn
  have h2 := mul_lt k.nm h.dn
  rw [Nat.add_comm m n] at h2
  exact .mk_ (Nat.mul_ne_zero p.den_nz q.den_nz) (sum_lt (b := p.den) (d := q.den) h1 h2).2 (lt_succ2 (mul_lt h.dn k.dn))
instance instBtMul [h : Bt p n] [k : Bt q m] : Bt (p * q) (n + m) := by
  rw [Rat.mul_def']
  refine .mk_ (Nat.mul_ne_zero p.den_nz q.den_nz) ?_ (mul_lt h.dn k.dn)
  rw [Int.natAbs_mul]; exact mul_lt h.nm k.nm
instance instBtNeg [h : Bt p n] : Bt (-p) n := ⟨by rw [Rat.neg_num, Int.natAbs_neg]; exact h.nm, h.dn⟩
def rmin (p q : Rat) : Rat := if q < p then q else p
def rmax (p q : Rat) : Rat := if p < q then q else p
def rabs (q : Rat) : Rat := if q < 0 then -q else q
def rpow (q : Rat) : Nat → Rat
  | 0 => 1
  | n + 1 => rpow q n * q
instance instBtMin [h : Bt p n] [k : Bt q m] : Bt (rmin p q) (max n m) := by
  unfold rmin; split
  · exact k.le (Nat.le_max_right _ _)
  · exact h.le (Nat.le_max_left _ _)
instance instBtMax [h : Bt p n] [k : Bt q m] : Bt (rmax p q) (max n m) := by
  unfold rmax; split
  · exact k.le (Nat.le_max_right _ _)
  · exact h.le (Nat.le_max_left _ _)
instance instBtAbs [h : Bt p n] : Bt (rabs p) n := by
  unfold rabs; split
  · exact instBtNeg
  · exact h
instance instBt0 : Bt 0 1 := ⟨by decide, by decide⟩
instance instBt1 : Bt 1 1 := ⟨by decide, by decide⟩
instance instBtPow [h : Bt p n] (k : Nat) : Bt (rpow p k) (1 + k * n) := by
  induction k with
  | zero => exact instBt1.le (by omega)
  | succ k ih => exact (instBtMul (p := rpow p k) (q := p)).le (by rw [Nat.succ_mul]; omega)
theorem rabs_num (q : Rat) : (rabs q).num = q.num.natAbs := by
  unfold rabs
  split
  · rename_i h
    have : q.num < 0 := by
      have := Rat.lt_iff q 0 |>.mp h
      simpa using this
    rw [Rat.neg_num]; omega
  · rename_i h
    have : 0 ≤ q.num := Rat.num_nonneg.mpr (Rat.not_lt.mp h)
    omega
theorem rabs_den (q : Rat) : (rabs q).den = q.den := by
  unfold rabs; split <;> rfl
theorem lt_num (p q : Rat) : (p.num * (q.den : Int) < q.num * (p.den : Int)) = (p < q) := propext (Rat.lt_iff p q).symm
theorem add_mk (p q : Rat) : mkRat (p.num * (q.den : Int) + q.num * (p.den : Int)) (p.den * q.den) = p + q := (Rat.add_def' p q).symm
theorem sub_mk (p q : Rat) : mkRat (p.num * (q.den : Int) - q.num * (p.den : Int)) (p.den * q.den) = p - q := (Rat.sub_def' p q).symm
theorem mul_mk (p q : Rat) : mkRat (p.num * q.num) (p.den * q.den) = p * q := (Rat.mul_def' p q).symm
theorem log2_of {a n : Nat} (h : a < 2 ^ n) : a.log2 ≤ n := by
  rcases Nat.eq_zero_or_pos a with rfl | ha
  · rw [Nat.log2_zero]; omega
  · exact Nat.le_of_lt ((Nat.log2_lt (by omega)).mpr h)
end
end K03

set_option linter.all false
namespace K03
/-! KI: intervals of rational numbers. -/
theorem rmin_law (p q : Rat) : (if p < q then p else q) = rmin p q := by unfold rmin; grind
theorem rmin_self (p : Rat) : rmin p p = p := by unfold rmin; grind
theorem rmax_self (p : Rat) : rmax p p = p := by unfold rmax; grind
theorem rmin_le_l (p q : Rat) : rmin p q ≤ p := by unfold rmin; grind
theorem rmin_le_r (p q : Rat) : rmin p q ≤ q := by unfold rmin; grind
theorem le_rmax_l (p q : Rat) : p ≤ rmax p q := by unfold rmax; grind
theorem le_rmax_r (p q : Rat) : q ≤ rmax p q := by unfold rmax; grind
theorem rmin_of_le {p q : Rat} (h : p ≤ q) : rmin p q = p := by unfold rmin; grind
theorem rmax_of_le {p q : Rat} (h : p ≤ q) : rmax p q = q := by unfold rmax; grind
theorem rmin_of_ge {p q : Rat} (h : q ≤ p) : rmin p q = q := by unfold rmin; grind
theorem rmax_of_ge {p q : Rat} (h : q ≤ p) : rmax p q = p := by unfold rmax; grind
/-- all products of an interval -/
def mlo (a b c d : Rat) : Rat := rmin (rmin (rmin (a * c) (a * d)) (b * c)) (b * d)
def mhi (a b c d : Rat) : Rat := rmax (rmax (rmax (a * c) (a * d)) (b * c)) (b * d)
theorem lin_in {a l h y : Rat} (h1 : l ≤ y) (h2 : y ≤ h) : rmin (a * l) (a * h) ≤ a * y ∧ a * y ≤ rmax (a * l) (a * h) := by
  rcases Rat.le_total (a := 0) (b := a) with k | k
  · have := Rat.mul_le_mul_of_nonneg_left h1 k
    have := Rat.mul_le_mul_of_nonneg_left h2 k
    have := rmin_le_l (a * l) (a * h)
    have := le_rmax_r (a * l) (a * h)
    grind
  · have k' : 0 ≤ -a := by grind
    have := Rat.mul_le_mul_of_nonneg_left h1 k'
    have := Rat.mul_le_mul_of_nonneg_left h2 k'
    have := rmin_le_r (a * l) (a * h)
    have := le_rmax_l (a * l) (a * h)
    grind
theorem mul_in {a b c d x y : Rat} (h1 : a ≤ x) (h2 : x ≤ b) (h3 : c ≤ y) (h4 : y ≤ d) : mlo a b c d ≤ x * y ∧ x * y ≤ mhi a b c d := by
  have k1 := lin_in (a := a) h3 h4
  have k2 := lin_in (a := b) h3 h4
  have k3 := lin_in (a := y) h1 h2
  rw [Rat.mul_comm y a, Rat.mul_comm y b, Rat.mul_comm y x] at k3
  unfold mlo mhi
  unfold rmin rmax at *
  grind
/-! powers -/
theorem rpow_one (q : Rat) : rpow q 1 = q := by simp [rpow, Rat.one_mul]
theorem rpow_nonneg {q : Rat} (h : 0 ≤ q) : ∀ n, 0 ≤ rpow q n
  | 0 => by show (0:Rat) ≤ 1; decide
  | n + 1 => Rat.mul_nonneg (rpow_nonneg h n) h
theorem rpow_mono {p q : Rat} (h : 0 ≤ p) (k : p ≤ q) : ∀ n, rpow p n ≤ rpow q n
  | 0 => by unfold rpow; exact Rat.le_refl
  | n + 1 => by
    have ih := rpow_mono h k n
    have h1 := Rat.mul_le_mul_of_nonneg_left ih h
    have h2 := Rat.mul_le_mul_of_nonneg_left k (rpow_nonneg (Rat.le_trans h k) n)
    unfold rpow
    grind
theorem rpow_neg2 (q : Rat) : ∀ n, rpow (-q) (2 * n) = rpow q (2 * n)
  | 0 => rfl
  | n + 1 => by
    have ih := rpow_neg2 q n
    show rpow (-q) (2 * n) * -q * -q = rpow q (2 * n) * q * q
    rw [ih]; grind
theorem rpow_neg1 (q : Rat) (n : Nat) : rpow (-q) (2 * n + 1) = -rpow q (2 * n + 1) := by
  show rpow (-q) (2 * n) * -q = -(rpow q (2 * n) * q)
  rw [rpow_neg2]; grind
theorem rpow_abs2 (q : Rat) (n : Nat) : rpow (rabs q) (2 * n) = rpow q (2 * n) := by
  unfold rabs; split
  · exact rpow_neg2 q n
  · rfl
theorem rabs_nonneg (q : Rat) : 0 ≤ rabs q := by unfold rabs; grind
theorem rpow_odd {p q : Rat} (h : p ≤ q) (n : Nat) : rpow p (2 * n + 1) ≤ rpow q (2 * n + 1) := by
  rcases Rat.le_total (a := 0) (b := p) with k | k
  · exact rpow_mono k h _
  · rcases Rat.le_total (a := 0) (b := q) with k2 | k2
    · have h1 := rpow_nonneg (q := -p) (by grind) (2 * n + 1)
      have h2 := rpow_nonneg k2 (2 * n + 1)
      rw [rpow_neg1] at h1
      grind
    · have h1 := rpow_mono (p := -q) (q := -p) (by grind) (by grind) (2 * n + 1)
      rw [rpow_neg1, rpow_neg1] at h1
      grind
theorem rpow_odd0 (n : Nat) : rpow 0 (2 * n + 1) = 0 := by show rpow 0 (2 * n) * 0 = 0; exact Rat.mul_zero _
theorem rpow_even0 (n : Nat) : rpow 0 (2 * n + 2) = 0 := by show rpow 0 (2 * n + 1) * 0 = 0; exact Rat.mul_zero _
/-- the law's interval of the powers -/
def powLo (l h : Rat) (n : Nat) : Rat := if n > 0 ∧ ¬ 0 < l ∧ ¬ h < 0 then rmin (rmin (rpow l n) (rpow h n)) 0 else rmin (rpow l n) (rpow h n)
def powHi (l h : Rat) (n : Nat) : Rat := if n > 0 ∧ ¬ 0 < l ∧ ¬ h < 0 then rmax (rmax (rpow l n) (rpow h n)) 0 else rmax (rpow l n) (rpow h n)
def near (l h : Rat) : Rat := if ¬ 0 < l ∧ ¬ h < 0 then 0 else rmin (rabs l) (rabs h)
theorem pow_odd_eq {l h : Rat} (k : l ≤ h) (n : Nat) : powLo l h (2 * n + 1) = rpow l (2 * n + 1) ∧ powHi l h (2 * n + 1) = rpow h (2 * n + 1) := by
  have h1 := rpow_odd k n
  unfold powLo powHi
  rw [rmin_of_le h1, rmax_of_le h1]
  split
  · rename_i z
    have h2 := rpow_odd (p := l) (q := 0) (by grind) n
    have h3 := rpow_odd (p := 0) (q := h) (by grind) n
    rw [rpow_odd0] at h2 h3
    exact ⟨rmin_of_le h2, rmax_of_ge h3⟩
  · exact ⟨rfl, rfl⟩
theorem pow_even_eq {l h : Rat} (k : l ≤ h) (n : Nat) : powLo l h (2 * n) = rpow (near l h) (2 * n) ∧ powHi l h (2 * n) = rpow (rmax (rabs l) (rabs h)) (2 * n) := by
  cases n with
  | zero => simp only [Nat.mul_zero]; unfold powLo powHi; simp [rpow, rmin_self, rmax_self]
  | succ n =>
    have e1 := rpow_abs2 l (n + 1)
    have e2 := rpow_abs2 h (n + 1)
    have p1 := rpow_nonneg (rabs_nonneg l) (2 * (n + 1))
    have p2 := rpow_nonneg (rabs_nonneg h) (2 * (n + 1))
    have m1 := rpow_mono (p := rabs l) (q := rabs h) (rabs_nonneg l)
    have m2 := rpow_mono (p := rabs h) (q := rabs l) (rabs_nonneg h)
    have z := rpow_even0 n
    rw [show 2 * n + 2 = 2 * (n + 1) by omega] at z
    unfold powLo powHi near
    have hp : 2 * (n + 1) > 0 := by omega
    rcases Rat.le_total (a := rabs l) (b := rabs h) with q | q
    · have m := m1 q (2 * (n + 1))
      rw [rmin_of_le q, rmax_of_le q]
      rw [e1, e2] at m
      rw [rmin_of_le m, rmax_of_le m]
      rw [e1] at p1; rw [e2] at p2
      split
      · rename_i z1
        rw [if_pos ⟨z1.2.1, z1.2.2⟩, z, rmin_of_ge p1, rmax_of_ge p2, e2]
        exact ⟨rfl, rfl⟩
      · rename_i z1
        rw [if_neg (fun z2 => z1 ⟨hp, z2⟩), e1, e2]
        exact ⟨rfl, rfl⟩
    · have m := m2 q (2 * (n + 1))
      rw [rmin_of_ge q, rmax_of_ge q]
      rw [e1, e2] at m
      rw [rmin_of_ge m, rmax_of_ge m]
      rw [e1] at p1; rw [e2] at p2
      split
      · rename_i z1
        rw [if_pos ⟨z1.2.1, z1.2.2⟩, z, rmin_of_ge p2, rmax_of_ge p1, e1]
        exact ⟨rfl, rfl⟩
      · rename_i z1
        rw [if_neg (fun z2 => z1 ⟨hp, z2⟩), e1, e2]
        exact ⟨rfl, rfl⟩
theorem abs_le {l h x : Rat} (h1 : l ≤ x) (h2 : x ≤ h) : rabs x ≤ rmax (rabs l) (rabs h) := by unfold rabs rmax; grind
theorem near_le {l h x : Rat} (h1 : l ≤ x) (h2 : x ≤ h) : near l h ≤ rabs x := by unfold near rabs rmin; grind
theorem near_nonneg (l h : Rat) : 0 ≤ near l h := by unfold near; split; exact Rat.le_refl; unfold rmin rabs; grind
theorem pow_in {l h x : Rat} (h1 : l ≤ x) (h2 : x ≤ h) (n : Nat) : powLo l h n ≤ rpow x n ∧ rpow x n ≤ powHi l h n := by
  have k : l ≤ h := Rat.le_trans h1 h2
  rcases Nat.mod_two_eq_zero_or_one n with e | e
  · obtain ⟨j, rfl⟩ : ∃ j, n = 2 * j := ⟨n / 2, by omega⟩
    obtain ⟨e1, e2⟩ := pow_even_eq k j
    rw [e1, e2, ← rpow_abs2 x]
    exact ⟨rpow_mono (near_nonneg l h) (near_le h1 h2) _, rpow_mono (rabs_nonneg x) (abs_le h1 h2) _⟩
  · obtain ⟨j, rfl⟩ : ∃ j, n = 2 * j + 1 := ⟨n / 2, by omega⟩
    obtain ⟨e1, e2⟩ := pow_odd_eq k j
    rw [e1, e2]
    exact ⟨rpow_odd h1 j, rpow_odd h2 j⟩
/-- how far two of two intervals can be from each other -/
theorem apart_eq {a b c d : Rat} (h1 : a ≤ b) (h2 : c ≤ d) : rmax (rabs (a - d)) (rabs (b - c)) = rmax 0 (rmax (b - c) (d - a)) := by unfold rmax rabs; grind
end K03

set_option Elab.async false
set_option linter.all false
set_option maxRecDepth 100000
set_option maxHeartbeats 4000000
/-! KB: what they reckon (printed by gen_k03.py). -/
namespace K03
open PySem PySem.Spec L2 Mi
/-- common -/
def b0 (call : Calls) : St' := (sSeq (sPar2 0 .val 1 .val (cOp1 fAbs (.var 0)) (cOp1 fAbs (.var 1))) (sSeq (sWhile (tB (cOp2 fGt (.var 1) (.val (cC (.int (0)))))) (sPar2 0 .val 1 .val (cVar 1) (cOp2 fMod (.var 0) (.var 1)))) (sRetV 0)))
theorem body0 (call : Calls) : denB (den 30) (ctxOf pg call F0) 100 F0.body = b0 call := by kernel_rfl
theorem ps0 : F0.ps.length = 2 := by kernel_rfl
theorem N0 : F0.N.length = 2 := rfl
theorem c0 (k : Nat) (x0 x1 : D) (S : List Ob) : callN pg (k + 1) 0 [x0, x1] S = endRc (b0 (callN pg k) ⟨[some (.d x0), some (.d x1)], S⟩) := by
  show runF pg (callN pg k) F0 [x0, x1] S = _
  unfold runF; rw [body0, ps0, N0]; rfl
/-- made -/
def b1 (call : Calls) : St' := (sSeq (sAsg (gNm 2 .own) (cCall call 0 (aCons (cVar 0) (aCons (cVar 1) aNil)))) (sSeq (sAsg (gNm 2 .own) (cIf (tB (cOp2 fGt (.var 1) (.val (cC (.int (0)))))) (cVar 2) (cOp2 fSub (.val (cC (.int (0)))) (.var 2)))) (sRet (cTup (aCons (cOp2 fDiv (.var 0) (.var 2)) (aCons (cOp2 fDiv (.var 1) (.var 2)) aNil))))))
theorem body1 (call : Calls) : denB (den 30) (ctxOf pg call F1) 100 F1.body = b1 call := by kernel_rfl
theorem ps1 : F1.ps.length = 2 := by kernel_rfl
theorem N1 : F1.N.length = 3 := rfl
theorem c1 (k : Nat) (x0 x1 : D) (S : List Ob) : callN pg (k + 1) 1 [x0, x1] S = endRc (b1 (callN pg k) ⟨[some (.d x0), some (.d x1), none], S⟩) := by
  show runF pg (callN pg k) F1 [x0, x1] S = _
  unfold runF; rw [body1, ps1, N1]; rfl
/-- plus -/
def b2 (call : Calls) : St' := (sRet (cCall call 1 (aCons (cOp2 fAdd (.val (cOp2 fMul (.val (cOp2 fIx (.var 0) (.val (cC (.int (0)))))) (.val (cOp2 fIx (.var 1) (.val (cC (.int (1)))))))) (.val (cOp2 fMul (.val (cOp2 fIx (.var 1) (.val (cC (.int (0)))))) (.val (cOp2 fIx (.var 0) (.val (cC (.int (1))))))))) (aCons (cOp2 fMul (.val (cOp2 fIx (.var 0) (.val (cC (.int (1)))))) (.val (cOp2 fIx (.var 1) (.val (cC (.int (1))))))) aNil))))
theorem body2 (call : Calls) : denB (den 30) (ctxOf pg call F2) 100 F2.body = b2 call := by kernel_rfl
theorem ps2 : F2.ps.length = 2 := by kernel_rfl
theorem N2 : F2.N.length = 2 := rfl
theorem c2 (k : Nat) (x0 x1 : D) (S : List Ob) : callN pg (k + 1) 2 [x0, x1] S = endRc (b2 (callN pg k) ⟨[some (.d x0), some (.d x1)], S⟩) := by
  show runF pg (callN pg k) F2 [x0, x1] S = _
  unfold runF; rw [body2, ps2, N2]; rfl
/-- minus -/
def b3 (call : Calls) : St' := (sRet (cCall call 1 (aCons (cOp2 fSub (.val (cOp2 fMul (.val (cOp2 fIx (.var 0) (.val (cC (.int (0)))))) (.val (cOp2 fIx (.var 1) (.val (cC (.int (1)))))))) (.val (cOp2 fMul (.val (cOp2 fIx (.var 1) (.val (cC (.int (0)))))) (.val (cOp2 fIx (.var 0) (.val (cC (.int (1))))))))) (aCons (cOp2 fMul (.val (cOp2 fIx (.var 0) (.val (cC (.int (1)))))) (.val (cOp2 fIx (.var 1) (.val (cC (.int (1))))))) aNil))))
theorem body3 (call : Calls) : denB (den 30) (ctxOf pg call F3) 100 F3.body = b3 call := by kernel_rfl
theorem ps3 : F3.ps.length = 2 := by kernel_rfl
theorem N3 : F3.N.length = 2 := rfl
theorem c3 (k : Nat) (x0 x1 : D) (S : List Ob) : callN pg (k + 1) 3 [x0, x1] S = endRc (b3 (callN pg k) ⟨[some (.d x0), some (.d x1)], S⟩) := by
  show runF pg (callN pg k) F3 [x0, x1] S = _
  unfold runF; rw [body3, ps3, N3]; rfl
/-- times -/
def b4 (call : Calls) : St' := (sRet (cCall call 1 (aCons (cOp2 fMul (.val (cOp2 fIx (.var 0) (.val (cC (.int (0)))))) (.val (cOp2 fIx (.var 1) (.val (cC (.int (0))))))) (aCons (cOp2 fMul (.val (cOp2 fIx (.var 0) (.val (cC (.int (1)))))) (.val (cOp2 fIx (.var 1) (.val (cC (.int (1))))))) aNil))))
theorem body4 (call : Calls) : denB (den 30) (ctxOf pg call F4) 100 F4.body = b4 call := by kernel_rfl
theorem ps4 : F4.ps.length = 2 := by kernel_rfl
theorem N4 : F4.N.length = 2 := rfl
theorem c4 (k : Nat) (x0 x1 : D) (S : List Ob) : callN pg (k + 1) 4 [x0, x1] S = endRc (b4 (callN pg k) ⟨[some (.d x0), some (.d x1)], S⟩) := by
  show runF pg (callN pg k) F4 [x0, x1] S = _
  unfold runF; rw [body4, ps4, N4]; rfl
/-- size -/
def b5 (call : Calls) : St' := (sRet (cTup (aCons (cOp1 fAbs (.val (cOp2 fIx (.var 0) (.val (cC (.int (0))))))) (aCons (cOp2 fIx (.var 0) (.val (cC (.int (1))))) aNil))))
theorem body5 (call : Calls) : denB (den 30) (ctxOf pg call F5) 100 F5.body = b5 call := by kernel_rfl
theorem ps5 : F5.ps.length = 1 := by kernel_rfl
theorem N5 : F5.N.length = 1 := rfl
theorem c5 (k : Nat) (x0 : D) (S : List Ob) : callN pg (k + 1) 5 [x0] S = endRc (b5 (callN pg k) ⟨[some (.d x0)], S⟩) := by
  show runF pg (callN pg k) F5 [x0] S = _
  unfold runF; rw [body5, ps5, N5]; rfl
/-- is_less -/
def b6 (call : Calls) : St' := (sRet (cOp2 fLt (.val (cOp2 fMul (.val (cOp2 fIx (.var 0) (.val (cC (.int (0)))))) (.val (cOp2 fIx (.var 1) (.val (cC (.int (1)))))))) (.val (cOp2 fMul (.val (cOp2 fIx (.var 1) (.val (cC (.int (0)))))) (.val (cOp2 fIx (.var 0) (.val (cC (.int (1))))))))))
theorem body6 (call : Calls) : denB (den 30) (ctxOf pg call F6) 100 F6.body = b6 call := by kernel_rfl
theorem ps6 : F6.ps.length = 2 := by kernel_rfl
theorem N6 : F6.N.length = 2 := rfl
theorem c6 (k : Nat) (x0 x1 : D) (S : List Ob) : callN pg (k + 1) 6 [x0, x1] S = endRc (b6 (callN pg k) ⟨[some (.d x0), some (.d x1)], S⟩) := by
  show runF pg (callN pg k) F6 [x0, x1] S = _
  unfold runF; rw [body6, ps6, N6]; rfl
/-- lesser -/
def b7 (call : Calls) : St' := (sRet (cIf (tTru (.val (cCall call 6 (aCons (cVar 1) (aCons (cVar 0) aNil))))) (cVar 1) (cVar 0)))
theorem body7 (call : Calls) : denB (den 30) (ctxOf pg call F7) 100 F7.body = b7 call := by kernel_rfl
theorem ps7 : F7.ps.length = 2 := by kernel_rfl
theorem N7 : F7.N.length = 2 := rfl
theorem c7 (k : Nat) (x0 x1 : D) (S : List Ob) : callN pg (k + 1) 7 [x0, x1] S = endRc (b7 (callN pg k) ⟨[some (.d x0), some (.d x1)], S⟩) := by
  show runF pg (callN pg k) F7 [x0, x1] S = _
  unfold runF; rw [body7, ps7, N7]; rfl
/-- greater -/
def b8 (call : Calls) : St' := (sRet (cIf (tTru (.val (cCall call 6 (aCons (cVar 0) (aCons (cVar 1) aNil))))) (cVar 1) (cVar 0)))
theorem body8 (call : Calls) : denB (den 30) (ctxOf pg call F8) 100 F8.body = b8 call := by kernel_rfl
theorem ps8 : F8.ps.length = 2 := by kernel_rfl
theorem N8 : F8.N.length = 2 := rfl
theorem c8 (k : Nat) (x0 x1 : D) (S : List Ob) : callN pg (k + 1) 8 [x0, x1] S = endRc (b8 (callN pg k) ⟨[some (.d x0), some (.d x1)], S⟩) := by
  show runF pg (callN pg k) F8 [x0, x1] S = _
  unfold runF; rw [body8, ps8, N8]; rfl
/-- two_to -/
def b9 (call : Calls) : St' := (sRet (cIf (tB (cOp2 fGe (.var 0) (.val (cC (.int (0)))))) (cTup (aCons (cOp2 fShl (.val (cC (.int (1)))) (.var 0)) (aCons (cC (.int (1))) aNil))) (cTup (aCons (cC (.int (1))) (aCons (cOp2 fShl (.val (cC (.int (1)))) (.val (cOp2 fSub (.val (cC (.int (0)))) (.var 0)))) aNil)))))
theorem body9 (call : Calls) : denB (den 30) (ctxOf pg call F9) 100 F9.body = b9 call := by kernel_rfl
theorem ps9 : F9.ps.length = 1 := by kernel_rfl
theorem N9 : F9.N.length = 1 := rfl
theorem c9 (k : Nat) (x0 : D) (S : List Ob) : callN pg (k + 1) 9 [x0] S = endRc (b9 (callN pg k) ⟨[some (.d x0)], S⟩) := by
  show runF pg (callN pg k) F9 [x0] S = _
  unfold runF; rw [body9, ps9, N9]; rfl
/-- point -/
def b10 (call : Calls) : St' := (sRet (cTup (aCons (cVar 0) (aCons (cVar 0) aNil))))
theorem body10 (call : Calls) : denB (den 30) (ctxOf pg call F10) 100 F10.body = b10 call := by kernel_rfl
theorem ps10 : F10.ps.length = 1 := by kernel_rfl
theorem N10 : F10.N.length = 1 := rfl
theorem c10 (k : Nat) (x0 : D) (S : List Ob) : callN pg (k + 1) 10 [x0] S = endRc (b10 (callN pg k) ⟨[some (.d x0)], S⟩) := by
  show runF pg (callN pg k) F10 [x0] S = _
  unfold runF; rw [body10, ps10, N10]; rfl
/-- span -/
def b11 (call : Calls) : St' := (sSeq (sAsg2 (gNm 1 .own) (gNm 2 .own) (cOp2 fIx (.var 0) (.val (cC (.int (0)))))) (sSeq (sFor (iVal (cCut (.var 0) (some (cC (.int (1)))) none)) (gNm 3 .own) (sPar2 1 .own 2 .own (cCall call 7 (aCons (cVar 1) (aCons (cVar 3) aNil))) (cCall call 8 (aCons (cVar 2) (aCons (cVar 3) aNil))))) (sRet (cTup (aCons (cVar 1) (aCons (cVar 2) aNil))))))
theorem body11 (call : Calls) : denB (den 30) (ctxOf pg call F11) 100 F11.body = b11 call := by kernel_rfl
theorem ps11 : F11.ps.length = 1 := by kernel_rfl
theorem N11 : F11.N.length = 4 := rfl
theorem c11 (k : Nat) (x0 : D) (S : List Ob) : callN pg (k + 1) 11 [x0] S = endRc (b11 (callN pg k) ⟨[some (.d x0), none, none, none], S⟩) := by
  show runF pg (callN pg k) F11 [x0] S = _
  unfold runF; rw [body11, ps11, N11]; rfl
/-- plus_span -/
def b12 (call : Calls) : St' := (sRet (cTup (aCons (cCall call 2 (aCons (cOp2 fIx (.var 0) (.val (cC (.int (0))))) (aCons (cOp2 fIx (.var 1) (.val (cC (.int (0))))) aNil))) (aCons (cCall call 2 (aCons (cOp2 fIx (.var 0) (.val (cC (.int (1))))) (aCons (cOp2 fIx (.var 1) (.val (cC (.int (1))))) aNil))) aNil))))
theorem body12 (call : Calls) : denB (den 30) (ctxOf pg call F12) 100 F12.body = b12 call := by kernel_rfl
theorem ps12 : F12.ps.length = 2 := by kernel_rfl
theorem N12 : F12.N.length = 2 := rfl
theorem c12 (k : Nat) (x0 x1 : D) (S : List Ob) : callN pg (k + 1) 12 [x0, x1] S = endRc (b12 (callN pg k) ⟨[some (.d x0), some (.d x1)], S⟩) := by
  show runF pg (callN pg k) F12 [x0, x1] S = _
  unfold runF; rw [body12, ps12, N12]; rfl
/-- minus_span -/
def b13 (call : Calls) : St' := (sRet (cTup (aCons (cCall call 3 (aCons (cOp2 fIx (.var 0) (.val (cC (.int (0))))) (aCons (cOp2 fIx (.var 1) (.val (cC (.int (1))))) aNil))) (aCons (cCall call 3 (aCons (cOp2 fIx (.var 0) (.val (cC (.int (1))))) (aCons (cOp2 fIx (.var 1) (.val (cC (.int (0))))) aNil))) aNil))))
theorem body13 (call : Calls) : denB (den 30) (ctxOf pg call F13) 100 F13.body = b13 call := by kernel_rfl
theorem ps13 : F13.ps.length = 2 := by kernel_rfl
theorem N13 : F13.N.length = 2 := rfl
theorem c13 (k : Nat) (x0 x1 : D) (S : List Ob) : callN pg (k + 1) 13 [x0, x1] S = endRc (b13 (callN pg k) ⟨[some (.d x0), some (.d x1)], S⟩) := by
  show runF pg (callN pg k) F13 [x0, x1] S = _
  unfold runF; rw [body13, ps13, N13]; rfl
/-- times_span -/
def b14 (call : Calls) : St' := (sRet (cCall call 11 (aCons (cLc2 (iVar 0) (gNm 3 .val) tYesM (iVar 1) (gNm 4 .val) tYesM (cCall call 4 (aCons (cVar 3) (aCons (cVar 4) aNil))) [2, 3, 4] [4]) aNil)))
theorem body14 (call : Calls) : denB (den 30) (ctxOf pg call F14) 100 F14.body = b14 call := by kernel_rfl
theorem ps14 : F14.ps.length = 2 := by kernel_rfl
theorem N14 : F14.N.length = 5 := rfl
theorem c14 (k : Nat) (x0 x1 : D) (S : List Ob) : callN pg (k + 1) 14 [x0, x1] S = endRc (b14 (callN pg k) ⟨[some (.d x0), some (.d x1), none, none, none], S⟩) := by
  show runF pg (callN pg k) F14 [x0, x1] S = _
  unfold runF; rw [body14, ps14, N14]; rfl
/-- least_span -/
def b15 (call : Calls) : St' := (sRet (cTup (aCons (cCall call 7 (aCons (cOp2 fIx (.var 0) (.val (cC (.int (0))))) (aCons (cOp2 fIx (.var 1) (.val (cC (.int (0))))) aNil))) (aCons (cCall call 7 (aCons (cOp2 fIx (.var 0) (.val (cC (.int (1))))) (aCons (cOp2 fIx (.var 1) (.val (cC (.int (1))))) aNil))) aNil))))
theorem body15 (call : Calls) : denB (den 30) (ctxOf pg call F15) 100 F15.body = b15 call := by kernel_rfl
theorem ps15 : F15.ps.length = 2 := by kernel_rfl
theorem N15 : F15.N.length = 2 := rfl
theorem c15 (k : Nat) (x0 x1 : D) (S : List Ob) : callN pg (k + 1) 15 [x0, x1] S = endRc (b15 (callN pg k) ⟨[some (.d x0), some (.d x1)], S⟩) := by
  show runF pg (callN pg k) F15 [x0, x1] S = _
  unfold runF; rw [body15, ps15, N15]; rfl
/-- most_span -/
def b16 (call : Calls) : St' := (sRet (cTup (aCons (cCall call 8 (aCons (cOp2 fIx (.var 0) (.val (cC (.int (0))))) (aCons (cOp2 fIx (.var 1) (.val (cC (.int (0))))) aNil))) (aCons (cCall call 8 (aCons (cOp2 fIx (.var 0) (.val (cC (.int (1))))) (aCons (cOp2 fIx (.var 1) (.val (cC (.int (1))))) aNil))) aNil))))
theorem body16 (call : Calls) : denB (den 30) (ctxOf pg call F16) 100 F16.body = b16 call := by kernel_rfl
theorem ps16 : F16.ps.length = 2 := by kernel_rfl
theorem N16 : F16.N.length = 2 := rfl
theorem c16 (k : Nat) (x0 x1 : D) (S : List Ob) : callN pg (k + 1) 16 [x0, x1] S = endRc (b16 (callN pg k) ⟨[some (.d x0), some (.d x1)], S⟩) := by
  show runF pg (callN pg k) F16 [x0, x1] S = _
  unfold runF; rw [body16, ps16, N16]; rfl
/-- joined_span -/
def b17 (call : Calls) : St' := (sRet (cTup (aCons (cCall call 7 (aCons (cOp2 fIx (.var 0) (.val (cC (.int (0))))) (aCons (cOp2 fIx (.var 1) (.val (cC (.int (0))))) aNil))) (aCons (cCall call 8 (aCons (cOp2 fIx (.var 0) (.val (cC (.int (1))))) (aCons (cOp2 fIx (.var 1) (.val (cC (.int (1))))) aNil))) aNil))))
theorem body17 (call : Calls) : denB (den 30) (ctxOf pg call F17) 100 F17.body = b17 call := by kernel_rfl
theorem ps17 : F17.ps.length = 2 := by kernel_rfl
theorem N17 : F17.N.length = 2 := rfl
theorem c17 (k : Nat) (x0 x1 : D) (S : List Ob) : callN pg (k + 1) 17 [x0, x1] S = endRc (b17 (callN pg k) ⟨[some (.d x0), some (.d x1)], S⟩) := by
  show runF pg (callN pg k) F17 [x0, x1] S = _
  unfold runF; rw [body17, ps17, N17]; rfl
/-- power_span -/
def b18 (call : Calls) : St' := (sSeq (sAsg (gNm 2 .own) (cCall call 10 (aCons (cTup (aCons (cC (.int (1))) (aCons (cC (.int (1))) aNil))) aNil))) (sSeq (sIf (tB (cOp2 fEq (.val (cOp2 fMod (.var 1) (.val (cC (.int (2)))))) (.val (cC (.int (1)))))) (sSeq (sAsg (gTp 2 (gsCons (gNm 3 .own) (gsCons (gNm 4 .own) gsNil))) (cCall call 10 (aCons (cTup (aCons (cC (.int (1))) (aCons (cC (.int (1))) aNil))) aNil))) (sSeq (sFor (iRange1 (cVar 1)) (gNm 5 .own) (sPar2 3 .own 4 .own (cCall call 4 (aCons (cVar 3) (aCons (cOp2 fIx (.var 0) (.val (cC (.int (0))))) aNil))) (cCall call 4 (aCons (cVar 4) (aCons (cOp2 fIx (.var 0) (.val (cC (.int (1))))) aNil))))) (sRet (cTup (aCons (cVar 3) (aCons (cVar 4) aNil)))))) sNil) (sSeq (sAsg (gNm 6 .own) (cCall call 8 (aCons (cCall call 5 (aCons (cOp2 fIx (.var 0) (.val (cC (.int (0))))) aNil)) (aCons (cCall call 5 (aCons (cOp2 fIx (.var 0) (.val (cC (.int (1))))) aNil)) aNil)))) (sSeq (sAsg (gNm 7 .own) (cIf (tTru (.val (cCall call 19 (aCons (cVar 0) (aCons (cC (.tuple [(.int (0)), (.int (1))])) aNil))))) (cC (.tuple [(.int (0)), (.int (1))])) (cCall call 7 (aCons (cCall call 5 (aCons (cOp2 fIx (.var 0) (.val (cC (.int (0))))) aNil)) (aCons (cCall call 5 (aCons (cOp2 fIx (.var 0) (.val (cC (.int (1))))) aNil)) aNil))))) (sSeq (sAsg (gTp 2 (gsCons (gNm 3 .own) (gsCons (gNm 4 .own) gsNil))) (cVar 2)) (sSeq (sFor (iRange1 (cVar 1)) (gNm 5 .own) (sPar2 3 .own 4 .own (cCall call 4 (aCons (cVar 3) (aCons (cVar 7) aNil))) (cCall call 4 (aCons (cVar 4) (aCons (cVar 6) aNil))))) (sRet (cTup (aCons (cVar 3) (aCons (cVar 4) aNil))))))))))
theorem body18 (call : Calls) : denB (den 30) (ctxOf pg call F18) 100 F18.body = b18 call := by kernel_rfl
theorem ps18 : F18.ps.length = 2 := by kernel_rfl
theorem N18 : F18.N.length = 8 := rfl
theorem c18 (k : Nat) (x0 x1 : D) (S : List Ob) : callN pg (k + 1) 18 [x0, x1] S = endRc (b18 (callN pg k) ⟨[some (.d x0), some (.d x1), none, none, none, none, none, none], S⟩) := by
  show runF pg (callN pg k) F18 [x0, x1] S = _
  unfold runF; rw [body18, ps18, N18]; rfl
/-- holds -/
def b19 (call : Calls) : St' := (sRet (cAndM [(cNotM (.val (cCall call 6 (aCons (cVar 1) (aCons (cOp2 fIx (.var 0) (.val (cC (.int (0))))) aNil))))), (cNotM (.val (cCall call 6 (aCons (cOp2 fIx (.var 0) (.val (cC (.int (1))))) (aCons (cVar 1) aNil)))))]))
theorem body19 (call : Calls) : denB (den 30) (ctxOf pg call F19) 100 F19.body = b19 call := by kernel_rfl
theorem ps19 : F19.ps.length = 2 := by kernel_rfl
theorem N19 : F19.N.length = 2 := rfl
theorem c19 (k : Nat) (x0 x1 : D) (S : List Ob) : callN pg (k + 1) 19 [x0, x1] S = endRc (b19 (callN pg k) ⟨[some (.d x0), some (.d x1)], S⟩) := by
  show runF pg (callN pg k) F19 [x0, x1] S = _
  unfold runF; rw [body19, ps19, N19]; rfl
/-- is_inside -/
def b20 (call : Calls) : St' := (sRet (cAndM [(cCall call 19 (aCons (cVar 1) (aCons (cOp2 fIx (.var 0) (.val (cC (.int (0))))) aNil))), (cCall call 19 (aCons (cVar 1) (aCons (cOp2 fIx (.var 0) (.val (cC (.int (1))))) aNil)))]))
theorem body20 (call : Calls) : denB (den 30) (ctxOf pg call F20) 100 F20.body = b20 call := by kernel_rfl
theorem ps20 : F20.ps.length = 2 := by kernel_rfl
theorem N20 : F20.N.length = 2 := rfl
theorem c20 (k : Nat) (x0 x1 : D) (S : List Ob) : callN pg (k + 1) 20 [x0, x1] S = endRc (b20 (callN pg k) ⟨[some (.d x0), some (.d x1)], S⟩) := by
  show runF pg (callN pg k) F20 [x0, x1] S = _
  unfold runF; rw [body20, ps20, N20]; rfl
/-- far_of -/
def b21 (call : Calls) : St' := (sRet (cCall call 8 (aCons (cCall call 5 (aCons (cOp2 fIx (.var 0) (.val (cC (.int (0))))) aNil)) (aCons (cCall call 5 (aCons (cOp2 fIx (.var 0) (.val (cC (.int (1))))) aNil)) aNil))))
theorem body21 (call : Calls) : denB (den 30) (ctxOf pg call F21) 100 F21.body = b21 call := by kernel_rfl
theorem ps21 : F21.ps.length = 1 := by kernel_rfl
theorem N21 : F21.N.length = 1 := rfl
theorem c21 (k : Nat) (x0 : D) (S : List Ob) : callN pg (k + 1) 21 [x0] S = endRc (b21 (callN pg k) ⟨[some (.d x0)], S⟩) := by
  show runF pg (callN pg k) F21 [x0] S = _
  unfold runF; rw [body21, ps21, N21]; rfl
/-- wide_of -/
def b22 (call : Calls) : St' := (sRet (cCall call 3 (aCons (cOp2 fIx (.var 0) (.val (cC (.int (1))))) (aCons (cOp2 fIx (.var 0) (.val (cC (.int (0))))) aNil))))
theorem body22 (call : Calls) : denB (den 30) (ctxOf pg call F22) 100 F22.body = b22 call := by kernel_rfl
theorem ps22 : F22.ps.length = 1 := by kernel_rfl
theorem N22 : F22.N.length = 1 := rfl
theorem c22 (k : Nat) (x0 : D) (S : List Ob) : callN pg (k + 1) 22 [x0] S = endRc (b22 (callN pg k) ⟨[some (.d x0)], S⟩) := by
  show runF pg (callN pg k) F22 [x0] S = _
  unfold runF; rw [body22, ps22, N22]; rfl
/-- wider -/
def b23 (call : Calls) : St' := (sRet (cTup (aCons (cCall call 3 (aCons (cOp2 fIx (.var 0) (.val (cC (.int (0))))) (aCons (cVar 1) aNil))) (aCons (cCall call 2 (aCons (cOp2 fIx (.var 0) (.val (cC (.int (1))))) (aCons (cVar 1) aNil))) aNil))))
theorem body23 (call : Calls) : denB (den 30) (ctxOf pg call F23) 100 F23.body = b23 call := by kernel_rfl
theorem ps23 : F23.ps.length = 2 := by kernel_rfl
theorem N23 : F23.N.length = 2 := rfl
theorem c23 (k : Nat) (x0 x1 : D) (S : List Ob) : callN pg (k + 1) 23 [x0, x1] S = endRc (b23 (callN pg k) ⟨[some (.d x0), some (.d x1)], S⟩) := by
  show runF pg (callN pg k) F23 [x0, x1] S = _
  unfold runF; rw [body23, ps23, N23]; rfl
/-- part_of -/
def b24 (call : Calls) : St' := (sSeq (sAsg (gNm 3 .own) (cCall call 2 (aCons (cOp2 fIx (.var 0) (.val (cC (.int (0))))) (aCons (cCall call 4 (aCons (cCall call 22 (aCons (cVar 0) aNil)) (aCons (cCall call 1 (aCons (cVar 2) (aCons (cVar 1) aNil))) aNil))) aNil)))) (sRet (cTup (aCons (cVar 3) (aCons (cCall call 2 (aCons (cVar 3) (aCons (cCall call 4 (aCons (cCall call 22 (aCons (cVar 0) aNil)) (aCons (cTup (aCons (cC (.int (1))) (aCons (cVar 1) aNil))) aNil))) aNil))) aNil)))))
theorem body24 (call : Calls) : denB (den 30) (ctxOf pg call F24) 100 F24.body = b24 call := by kernel_rfl
theorem ps24 : F24.ps.length = 3 := by kernel_rfl
theorem N24 : F24.N.length = 4 := rfl
theorem c24 (k : Nat) (x0 x1 x2 : D) (S : List Ob) : callN pg (k + 1) 24 [x0, x1, x2] S = endRc (b24 (callN pg k) ⟨[some (.d x0), some (.d x1), some (.d x2), none], S⟩) := by
  show runF pg (callN pg k) F24 [x0, x1, x2] S = _
  unfold runF; rw [body24, ps24, N24]; rfl
/-- atom_weight -/
def b25 (call : Calls) : St' := (sRet (cIf (tB (cOp2 (fIn false) (.val (cOp2 fIx (.var 0) (.val (cC (.int (0)))))) (.val (cTup (aCons (cC (.str ("input" : Str))) (aCons (cC (.str ("state" : Str))) aNil)))))) (cC (.int (0))) (cOp1 fSum (.val (cLc (iVal (cCut (.var 0) (some (cC (.int (1)))) none)) (gNm 2 .val) tYesM (cCall call 26 (aCons (cVar 2) aNil)) [1, 2])))))
theorem body25 (call : Calls) : denB (den 30) (ctxOf pg call F25) 100 F25.body = b25 call := by kernel_rfl
theorem ps25 : F25.ps.length = 1 := by kernel_rfl
theorem N25 : F25.N.length = 3 := rfl
theorem c25 (k : Nat) (x0 : D) (S : List Ob) : callN pg (k + 1) 25 [x0] S = endRc (b25 (callN pg k) ⟨[some (.d x0), none, none], S⟩) := by
  show runF pg (callN pg k) F25 [x0] S = _
  unfold runF; rw [body25, ps25, N25]; rfl
/-- weight_of -/
def b26 (call : Calls) : St' := (sRet (cOp1 fSum (.val (cLc (iVar 0) (gTp 2 (gsCons (gNm 2 .val) (gsCons (gNm 3 .val) gsNil))) tYesM (cOp2 fAdd (.val (cC (.int (1)))) (.val (cOp1 fSum (.val (cLc (iVar 2) (gTp 2 (gsCons (gNm 4 .val) (gsCons (gNm 5 .val) gsNil))) tYesM (cCall call 25 (aCons (cVar 4) aNil)) [1, 4, 5]))))) [1, 2, 3]))))
theorem body26 (call : Calls) : denB (den 30) (ctxOf pg call F26) 100 F26.body = b26 call := by kernel_rfl
theorem ps26 : F26.ps.length = 1 := by kernel_rfl
theorem N26 : F26.N.length = 6 := rfl
theorem c26 (k : Nat) (x0 : D) (S : List Ob) : callN pg (k + 1) 26 [x0] S = endRc (b26 (callN pg k) ⟨[some (.d x0), none, none, none, none, none], S⟩) := by
  show runF pg (callN pg k) F26 [x0] S = _
  unfold runF; rw [body26, ps26, N26]; rfl
/-- checked_term -/
def b27 (call : Calls) : St' := (sSeq (sIf (tB (cOp2 fGt (.val (cCall call 26 (aCons (cVar 0) aNil))) (.val (cC (.int (300)))))) sBad sNil) (sRetV 0))
theorem body27 (call : Calls) : denB (den 30) (ctxOf pg call F27) 100 F27.body = b27 call := by kernel_rfl
theorem ps27 : F27.ps.length = 1 := by kernel_rfl
theorem N27 : F27.N.length = 1 := rfl
theorem c27 (k : Nat) (x0 : D) (S : List Ob) : callN pg (k + 1) 27 [x0] S = endRc (b27 (callN pg k) ⟨[some (.d x0)], S⟩) := by
  show runF pg (callN pg k) F27 [x0] S = _
  unfold runF; rw [body27, ps27, N27]; rfl
/-- from_list -/
def b28 (call : Calls) : St' := (sSeq (sAsg (gNm 1 .own) (cLst aNil)) (sSeq (sFor (iVal (cOp1 fSortAll (.var 0))) (gTp 2 (gsCons (gNm 2 .own) (gsCons (gNm 3 .own) gsNil))) (sIf (tAndM [(tB (cOp2 fNe (.var 1) (.val (cLst aNil)))), (tB (cOp2 fEq (.val (cOp2 fIx (.val (cOp2 fIx (.var 1) (.val (cOp1 fNeg (.val (cC (.int (1)))))))) (.val (cC (.int (0)))))) (.var 2)))]) (sAsg (gSet 1 (cOp1 fNeg (.val (cC (.int (1)))))) (cTup (aCons (cVar 2) (aCons (cCall call 2 (aCons (cOp2 fIx (.val (cOp2 fIx (.var 1) (.val (cOp1 fNeg (.val (cC (.int (1)))))))) (.val (cC (.int (1))))) (aCons (cVar 3) aNil))) aNil)))) (sDrop (cMt1 1 fAppend (cTup (aCons (cVar 2) (aCons (cVar 3) aNil))))))) (sRet (cCall call 27 (aCons (cOp1 fTuple (.val (cLc (iVar 1) (gTp 2 (gsCons (gNm 2 .val) (gsCons (gNm 3 .val) gsNil))) (tB (cOp2 fNe (.var 3) (.val (cC (.tuple [(.int (0)), (.int (1))]))))) (cTup (aCons (cVar 2) (aCons (cVar 3) aNil))) [4, 2, 3]))) aNil)))))
theorem body28 (call : Calls) : denB (den 30) (ctxOf pg call F28) 100 F28.body = b28 call := by kernel_rfl
theorem ps28 : F28.ps.length = 1 := by kernel_rfl
theorem N28 : F28.N.length = 5 := rfl
theorem c28 (k : Nat) (x0 : D) (S : List Ob) : callN pg (k + 1) 28 [x0] S = endRc (b28 (callN pg k) ⟨[some (.d x0), none, none, none, none], S⟩) := by
  show runF pg (callN pg k) F28 [x0] S = _
  unfold runF; rw [body28, ps28, N28]; rfl
/-- number_term -/
def b29 (call : Calls) : St' := (sRet (cCall call 28 (aCons (cLst (aCons (cTup (aCons (cTup aNil) (aCons (cVar 0) aNil))) aNil)) aNil)))
theorem body29 (call : Calls) : denB (den 30) (ctxOf pg call F29) 100 F29.body = b29 call := by kernel_rfl
theorem ps29 : F29.ps.length = 1 := by kernel_rfl
theorem N29 : F29.N.length = 1 := rfl
theorem c29 (k : Nat) (x0 : D) (S : List Ob) : callN pg (k + 1) 29 [x0] S = endRc (b29 (callN pg k) ⟨[some (.d x0)], S⟩) := by
  show runF pg (callN pg k) F29 [x0] S = _
  unfold runF; rw [body29, ps29, N29]; rfl
/-- atom_term -/
def b30 (call : Calls) : St' := (sRet (cCall call 27 (aCons (cTup (aCons (cTup (aCons (cTup (aCons (cTup (aCons (cVar 0) (aCons (cC (.int (1))) aNil))) aNil)) (aCons (cC (.tuple [(.int (1)), (.int (1))])) aNil))) aNil)) aNil)))
theorem body30 (call : Calls) : denB (den 30) (ctxOf pg call F30) 100 F30.body = b30 call := by kernel_rfl
theorem ps30 : F30.ps.length = 1 := by kernel_rfl
theorem N30 : F30.N.length = 1 := rfl
theorem c30 (k : Nat) (x0 : D) (S : List Ob) : callN pg (k + 1) 30 [x0] S = endRc (b30 (callN pg k) ⟨[some (.d x0)], S⟩) := by
  show runF pg (callN pg k) F30 [x0] S = _
  unfold runF; rw [body30, ps30, N30]; rfl
/-- input_term -/
def b31 (call : Calls) : St' := (sRet (cCall call 30 (aCons (cTup (aCons (cC (.str ("input" : Str))) (aCons (cVar 0) aNil))) aNil)))
theorem body31 (call : Calls) : denB (den 30) (ctxOf pg call F31) 100 F31.body = b31 call := by kernel_rfl
theorem ps31 : F31.ps.length = 1 := by kernel_rfl
theorem N31 : F31.N.length = 1 := rfl
theorem c31 (k : Nat) (x0 : D) (S : List Ob) : callN pg (k + 1) 31 [x0] S = endRc (b31 (callN pg k) ⟨[some (.d x0)], S⟩) := by
  show runF pg (callN pg k) F31 [x0] S = _
  unfold runF; rw [body31, ps31, N31]; rfl
/-- state_term -/
def b32 (call : Calls) : St' := (sRet (cCall call 30 (aCons (cTup (aCons (cC (.str ("state" : Str))) (aCons (cVar 0) aNil))) aNil)))
theorem body32 (call : Calls) : denB (den 30) (ctxOf pg call F32) 100 F32.body = b32 call := by kernel_rfl
theorem ps32 : F32.ps.length = 1 := by kernel_rfl
theorem N32 : F32.N.length = 1 := rfl
theorem c32 (k : Nat) (x0 : D) (S : List Ob) : callN pg (k + 1) 32 [x0] S = endRc (b32 (callN pg k) ⟨[some (.d x0)], S⟩) := by
  show runF pg (callN pg k) F32 [x0] S = _
  unfold runF; rw [body32, ps32, N32]; rfl
/-- number_of -/
def b33 (call : Calls) : St' := (sSeq (sIf (tB (cOp2 fEq (.var 0) (.val (cTup aNil)))) (sRet (cC (.tuple [(.int (0)), (.int (1))]))) sNil) (sRet (cIf (tAndM [(tB (cOp2 fEq (.val (cOp1 fLen (.var 0))) (.val (cC (.int (1)))))), (tB (cOp2 fEq (.val (cOp2 fIx (.val (cOp2 fIx (.var 0) (.val (cC (.int (0)))))) (.val (cC (.int (0)))))) (.val (cTup aNil))))]) (cOp2 fIx (.val (cOp2 fIx (.var 0) (.val (cC (.int (0)))))) (.val (cC (.int (1))))) (cC .none))))
theorem body33 (call : Calls) : denB (den 30) (ctxOf pg call F33) 100 F33.body = b33 call := by kernel_rfl
theorem ps33 : F33.ps.length = 1 := by kernel_rfl
theorem N33 : F33.N.length = 1 := rfl
theorem c33 (k : Nat) (x0 : D) (S : List Ob) : callN pg (k + 1) 33 [x0] S = endRc (b33 (callN pg k) ⟨[some (.d x0)], S⟩) := by
  show runF pg (callN pg k) F33 [x0] S = _
  unfold runF; rw [body33, ps33, N33]; rfl
/-- plus_term -/
def b34 (call : Calls) : St' := (sRet (cCall call 28 (aCons (cLst (aStar (.var 0) (aStar (.var 1) aNil))) aNil)))
theorem body34 (call : Calls) : denB (den 30) (ctxOf pg call F34) 100 F34.body = b34 call := by kernel_rfl
theorem ps34 : F34.ps.length = 2 := by kernel_rfl
theorem N34 : F34.N.length = 2 := rfl
theorem c34 (k : Nat) (x0 x1 : D) (S : List Ob) : callN pg (k + 1) 34 [x0, x1] S = endRc (b34 (callN pg k) ⟨[some (.d x0), some (.d x1)], S⟩) := by
  show runF pg (callN pg k) F34 [x0, x1] S = _
  unfold runF; rw [body34, ps34, N34]; rfl
/-- scaled_term -/
def b35 (call : Calls) : St' := (sRet (cCall call 28 (aCons (cLc (iVar 0) (gTp 2 (gsCons (gNm 3 .val) (gsCons (gNm 4 .val) gsNil))) tYesM (cTup (aCons (cVar 3) (aCons (cCall call 4 (aCons (cVar 4) (aCons (cVar 1) aNil))) aNil))) [2, 3, 4]) aNil)))
theorem body35 (call : Calls) : denB (den 30) (ctxOf pg call F35) 100 F35.body = b35 call := by kernel_rfl
theorem ps35 : F35.ps.length = 2 := by kernel_rfl
theorem N35 : F35.N.length = 5 := rfl
theorem c35 (k : Nat) (x0 x1 : D) (S : List Ob) : callN pg (k + 1) 35 [x0, x1] S = endRc (b35 (callN pg k) ⟨[some (.d x0), some (.d x1), none, none, none], S⟩) := by
  show runF pg (callN pg k) F35 [x0, x1] S = _
  unfold runF; rw [body35, ps35, N35]; rfl
/-- minus_term -/
def b36 (call : Calls) : St' := (sRet (cCall call 34 (aCons (cVar 0) (aCons (cCall call 35 (aCons (cVar 1) (aCons (cTup (aCons (cOp1 fNeg (.val (cC (.int (1))))) (aCons (cC (.int (1))) aNil))) aNil))) aNil))))
theorem body36 (call : Calls) : denB (den 30) (ctxOf pg call F36) 100 F36.body = b36 call := by kernel_rfl
theorem ps36 : F36.ps.length = 2 := by kernel_rfl
theorem N36 : F36.N.length = 2 := rfl
theorem c36 (k : Nat) (x0 x1 : D) (S : List Ob) : callN pg (k + 1) 36 [x0, x1] S = endRc (b36 (callN pg k) ⟨[some (.d x0), some (.d x1)], S⟩) := by
  show runF pg (callN pg k) F36 [x0, x1] S = _
  unfold runF; rw [body36, ps36, N36]; rfl
/-- times_monomial -/
def b37 (call : Calls) : St' := (sSeq (sAsg (gNm 2 .own) (cLst aNil)) (sSeq (sFor (iVal (cOp1 fSortAll (.val (cLst (aStar (.var 0) (aStar (.var 1) aNil)))))) (gTp 2 (gsCons (gNm 3 .own) (gsCons (gNm 4 .own) gsNil))) (sIf (tAndM [(tB (cOp2 fNe (.var 2) (.val (cLst aNil)))), (tB (cOp2 fEq (.val (cOp2 fIx (.val (cOp2 fIx (.var 2) (.val (cOp1 fNeg (.val (cC (.int (1)))))))) (.val (cC (.int (0)))))) (.var 3)))]) (sAsg (gSet 2 (cOp1 fNeg (.val (cC (.int (1)))))) (cTup (aCons (cVar 3) (aCons (cOp2 fAdd (.val (cOp2 fIx (.val (cOp2 fIx (.var 2) (.val (cOp1 fNeg (.val (cC (.int (1)))))))) (.val (cC (.int (1)))))) (.var 4)) aNil)))) (sDrop (cMt1 2 fAppend (cTup (aCons (cVar 3) (aCons (cVar 4) aNil))))))) (sRet (cOp1 fTuple (.var 2)))))
theorem body37 (call : Calls) : denB (den 30) (ctxOf pg call F37) 100 F37.body = b37 call := by kernel_rfl
theorem ps37 : F37.ps.length = 2 := by kernel_rfl
theorem N37 : F37.N.length = 5 := rfl
theorem c37 (k : Nat) (x0 x1 : D) (S : List Ob) : callN pg (k + 1) 37 [x0, x1] S = endRc (b37 (callN pg k) ⟨[some (.d x0), some (.d x1), none, none, none], S⟩) := by
  show runF pg (callN pg k) F37 [x0, x1] S = _
  unfold runF; rw [body37, ps37, N37]; rfl
/-- times_term -/
def b38 (call : Calls) : St' := (sSeq (sAsg (gNm 2 .own) (cLst aNil)) (sSeq (sFor (iVar 0) (gTp 2 (gsCons (gNm 3 .own) (gsCons (gNm 4 .own) gsNil))) (sDrop (cMt1 2 fExtAll (cLc (iVar 1) (gTp 2 (gsCons (gNm 6 .val) (gsCons (gNm 7 .val) gsNil))) tYesM (cTup (aCons (cCall call 37 (aCons (cVar 3) (aCons (cVar 6) aNil))) (aCons (cCall call 4 (aCons (cVar 4) (aCons (cVar 7) aNil))) aNil))) [5, 6, 7])))) (sRet (cCall call 28 (aCons (cVar 2) aNil)))))
theorem body38 (call : Calls) : denB (den 30) (ctxOf pg call F38) 100 F38.body = b38 call := by kernel_rfl
theorem ps38 : F38.ps.length = 2 := by kernel_rfl
theorem N38 : F38.N.length = 8 := rfl
theorem c38 (k : Nat) (x0 x1 : D) (S : List Ob) : callN pg (k + 1) 38 [x0, x1] S = endRc (b38 (callN pg k) ⟨[some (.d x0), some (.d x1), none, none, none, none, none, none], S⟩) := by
  show runF pg (callN pg k) F38 [x0, x1] S = _
  unfold runF; rw [body38, ps38, N38]; rfl
/-- pick_term -/
def b39 (call : Calls) : St' := (sSeq (sAsg (gNm 3 .own) (cCall call 33 (aCons (cVar 0) aNil))) (sSeq (sIf (tB (cOp2 fEq (.var 1) (.var 2))) (sRetV 1) sNil) (sSeq (sIf (tB (cOp1 fNotN (.var 3))) (sRet (cIf (tTru (.val (cCall call 6 (aCons (cVar 3) (aCons (cC (.tuple [(.int (0)), (.int (1))])) aNil))))) (cVar 1) (cVar 2))) sNil) (sRet (cCall call 30 (aCons (cTup (aCons (cC (.str ("pick" : Str))) (aCons (cVar 0) (aCons (cVar 1) (aCons (cVar 2) aNil))))) aNil))))))
theorem body39 (call : Calls) : denB (den 30) (ctxOf pg call F39) 100 F39.body = b39 call := by kernel_rfl
theorem ps39 : F39.ps.length = 3 := by kernel_rfl
theorem N39 : F39.N.length = 4 := rfl
theorem c39 (k : Nat) (x0 x1 x2 : D) (S : List Ob) : callN pg (k + 1) 39 [x0, x1, x2] S = endRc (b39 (callN pg k) ⟨[some (.d x0), some (.d x1), some (.d x2), none], S⟩) := by
  show runF pg (callN pg k) F39 [x0, x1, x2] S = _
  unfold runF; rw [body39, ps39, N39]; rfl
/-- ordered_term -/
def b40 (call : Calls) : St' := (sSeq (sAsg (gNm 3 .own) (cCall call 33 (aCons (cCall call 36 (aCons (cVar 1) (aCons (cVar 2) aNil))) aNil))) (sSeq (sIf (tB (cOp1 fIsN (.var 3))) (sRet (cCall call 30 (aCons (cTup (aCons (cVar 0) (aStar (.val (cOp1 fSortAll (.val (cLst (aCons (cVar 1) (aCons (cVar 2) aNil)))))) aNil))) aNil))) sNil) (sRet (cIf (tB (cOp2 fEq (.val (cCall call 6 (aCons (cVar 3) (aCons (cC (.tuple [(.int (0)), (.int (1))])) aNil)))) (.val (cOp2 fEq (.var 0) (.val (cC (.str ("least" : Str)))))))) (cVar 1) (cVar 2)))))
theorem body40 (call : Calls) : denB (den 30) (ctxOf pg call F40) 100 F40.body = b40 call := by kernel_rfl
theorem ps40 : F40.ps.length = 3 := by kernel_rfl
theorem N40 : F40.N.length = 4 := rfl
theorem c40 (k : Nat) (x0 x1 x2 : D) (S : List Ob) : callN pg (k + 1) 40 [x0, x1, x2] S = endRc (b40 (callN pg k) ⟨[some (.d x0), some (.d x1), some (.d x2), none], S⟩) := by
  show runF pg (callN pg k) F40 [x0, x1, x2] S = _
  unfold runF; rw [body40, ps40, N40]; rfl
/-- least_term -/
def b41 (call : Calls) : St' := (sRet (cCall call 40 (aCons (cC (.str ("least" : Str))) (aCons (cVar 0) (aCons (cVar 1) aNil)))))
theorem body41 (call : Calls) : denB (den 30) (ctxOf pg call F41) 100 F41.body = b41 call := by kernel_rfl
theorem ps41 : F41.ps.length = 2 := by kernel_rfl
theorem N41 : F41.N.length = 2 := rfl
theorem c41 (k : Nat) (x0 x1 : D) (S : List Ob) : callN pg (k + 1) 41 [x0, x1] S = endRc (b41 (callN pg k) ⟨[some (.d x0), some (.d x1)], S⟩) := by
  show runF pg (callN pg k) F41 [x0, x1] S = _
  unfold runF; rw [body41, ps41, N41]; rfl
/-- most_term -/
def b42 (call : Calls) : St' := (sRet (cCall call 40 (aCons (cC (.str ("most" : Str))) (aCons (cVar 0) (aCons (cVar 1) aNil)))))
theorem body42 (call : Calls) : denB (den 30) (ctxOf pg call F42) 100 F42.body = b42 call := by kernel_rfl
theorem ps42 : F42.ps.length = 2 := by kernel_rfl
theorem N42 : F42.N.length = 2 := rfl
theorem c42 (k : Nat) (x0 x1 : D) (S : List Ob) : callN pg (k + 1) 42 [x0, x1] S = endRc (b42 (callN pg k) ⟨[some (.d x0), some (.d x1)], S⟩) := by
  show runF pg (callN pg k) F42 [x0, x1] S = _
  unfold runF; rw [body42, ps42, N42]; rfl
/-- atom_value -/
def b43 (call : Calls) : St' := (sSeq (sIf (tB (cOp2 fEq (.val (cOp2 fIx (.var 0) (.val (cC (.int (0)))))) (.val (cC (.str ("input" : Str)))))) (sRet (cOp2 fIx (.var 1) (.val (cOp2 fIx (.var 0) (.val (cC (.int (1)))))))) sNil) (sSeq (sIf (tB (cOp2 fEq (.val (cOp2 fIx (.var 0) (.val (cC (.int (0)))))) (.val (cC (.str ("state" : Str)))))) (sRet (cOp2 fIx (.var 2) (.val (cOp2 fIx (.var 0) (.val (cC (.int (1)))))))) sNil) (sSeq (sAsg (gNm 3 .own) (cCall call 44 (aCons (cOp2 fIx (.var 0) (.val (cC (.int (1))))) (aCons (cVar 1) (aCons (cVar 2) aNil))))) (sSeq (sAsg (gNm 4 .own) (cCall call 44 (aCons (cOp2 fIx (.var 0) (.val (cC (.int (2))))) (aCons (cVar 1) (aCons (cVar 2) aNil))))) (sSeq (sIf (tB (cOp2 fEq (.val (cOp2 fIx (.var 0) (.val (cC (.int (0)))))) (.val (cC (.str ("pick" : Str)))))) (sRet (cIf (tTru (.val (cCall call 6 (aCons (cVar 3) (aCons (cC (.tuple [(.int (0)), (.int (1))])) aNil))))) (cVar 4) (cCall call 44 (aCons (cOp2 fIx (.var 0) (.val (cC (.int (3))))) (aCons (cVar 1) (aCons (cVar 2) aNil)))))) sNil) (sRet (cIf (tB (cOp2 fEq (.val (cCall call 6 (aCons (cVar 3) (aCons (cVar 4) aNil)))) (.val (cOp2 fEq (.val (cOp2 fIx (.var 0) (.val (cC (.int (0)))))) (.val (cC (.str ("least" : Str)))))))) (cVar 3) (cVar 4))))))))
theorem body43 (call : Calls) : denB (den 30) (ctxOf pg call F43) 100 F43.body = b43 call := by kernel_rfl
theorem ps43 : F43.ps.length = 3 := by kernel_rfl
theorem N43 : F43.N.length = 5 := rfl
theorem c43 (k : Nat) (x0 x1 x2 : D) (S : List Ob) : callN pg (k + 1) 43 [x0, x1, x2] S = endRc (b43 (callN pg k) ⟨[some (.d x0), some (.d x1), some (.d x2), none, none], S⟩) := by
  show runF pg (callN pg k) F43 [x0, x1, x2] S = _
  unfold runF; rw [body43, ps43, N43]; rfl
/-- term_value -/
def b44 (call : Calls) : St' := (sSeq (sAsg (gNm 3 .own) (cC (.tuple [(.int (0)), (.int (1))]))) (sSeq (sFor (iVar 0) (gTp 2 (gsCons (gNm 4 .own) (gsCons (gNm 5 .own) gsNil))) (sSeq (sFor (iVar 4) (gTp 2 (gsCons (gNm 6 .own) (gsCons (gNm 7 .own) gsNil))) (sSeq (sAsg (gNm 8 .own) (cCall call 43 (aCons (cVar 6) (aCons (cVar 1) (aCons (cVar 2) aNil))))) (sFor (iRange1 (cVar 7)) (gNm 9 .own) (sAsg (gNm 5 .own) (cCall call 4 (aCons (cVar 5) (aCons (cVar 8) aNil))))))) (sAsg (gNm 3 .own) (cCall call 2 (aCons (cVar 3) (aCons (cVar 5) aNil)))))) (sRetV 3)))
theorem body44 (call : Calls) : denB (den 30) (ctxOf pg call F44) 100 F44.body = b44 call := by kernel_rfl
theorem ps44 : F44.ps.length = 3 := by kernel_rfl
theorem N44 : F44.N.length = 10 := rfl
theorem c44 (k : Nat) (x0 x1 x2 : D) (S : List Ob) : callN pg (k + 1) 44 [x0, x1, x2] S = endRc (b44 (callN pg k) ⟨[some (.d x0), some (.d x1), some (.d x2), none, none, none, none, none, none, none], S⟩) := by
  show runF pg (callN pg k) F44 [x0, x1, x2] S = _
  unfold runF; rw [body44, ps44, N44]; rfl
/-- monomial_span -/
def b45 (call : Calls) : St' := (sSeq (sAsg (gNm 3 .own) (cCall call 10 (aCons (cC (.tuple [(.int (1)), (.int (1))])) aNil))) (sSeq (sFor (iVar 0) (gTp 2 (gsCons (gNm 4 .own) (gsCons (gNm 5 .own) gsNil))) (sAsg (gNm 3 .own) (cCall call 14 (aCons (cVar 3) (aCons (cCall call 18 (aCons (cCall call 48 (aCons (cVar 4) (aCons (cVar 1) (aCons (cVar 2) aNil)))) (aCons (cVar 5) aNil))) aNil))))) (sRetV 3)))
theorem body45 (call : Calls) : denB (den 30) (ctxOf pg call F45) 100 F45.body = b45 call := by kernel_rfl
theorem ps45 : F45.ps.length = 3 := by kernel_rfl
theorem N45 : F45.N.length = 6 := rfl
theorem c45 (k : Nat) (x0 x1 x2 : D) (S : List Ob) : callN pg (k + 1) 45 [x0, x1, x2] S = endRc (b45 (callN pg k) ⟨[some (.d x0), some (.d x1), some (.d x2), none, none, none], S⟩) := by
  show runF pg (callN pg k) F45 [x0, x1, x2] S = _
  unfold runF; rw [body45, ps45, N45]; rfl
/-- term_span -/
def b46 (call : Calls) : St' := (sSeq (sAsg (gNm 3 .own) (cCall call 10 (aCons (cC (.tuple [(.int (0)), (.int (1))])) aNil))) (sSeq (sFor (iVar 0) (gTp 2 (gsCons (gNm 4 .own) (gsCons (gNm 5 .own) gsNil))) (sAsg (gNm 3 .own) (cCall call 12 (aCons (cVar 3) (aCons (cCall call 14 (aCons (cCall call 10 (aCons (cVar 5) aNil)) (aCons (cCall call 45 (aCons (cVar 4) (aCons (cVar 1) (aCons (cVar 2) aNil)))) aNil))) aNil))))) (sRetV 3)))
theorem body46 (call : Calls) : denB (den 30) (ctxOf pg call F46) 100 F46.body = b46 call := by kernel_rfl
theorem ps46 : F46.ps.length = 3 := by kernel_rfl
theorem N46 : F46.N.length = 6 := rfl
theorem c46 (k : Nat) (x0 x1 x2 : D) (S : List Ob) : callN pg (k + 1) 46 [x0, x1, x2] S = endRc (b46 (callN pg k) ⟨[some (.d x0), some (.d x1), some (.d x2), none, none, none], S⟩) := by
  show runF pg (callN pg k) F46 [x0, x1, x2] S = _
  unfold runF; rw [body46, ps46, N46]; rfl
/-- pick_span -/
def b47 (call : Calls) : St' := (sSeq (sAsg (gTp 3 (gsCons (gNm 1 .own) (gsCons (gNm 2 .own) (gsCons (gNm 3 .own) gsNil)))) (cVar 0)) (sSeq (sIf (tTru (.val (cCall call 6 (aCons (cOp2 fIx (.var 1) (.val (cC (.int (1))))) (aCons (cC (.tuple [(.int (0)), (.int (1))])) aNil))))) (sRetV 2) sNil) (sRet (cIf (tNotM (tTru (.val (cCall call 6 (aCons (cOp2 fIx (.var 1) (.val (cC (.int (0))))) (aCons (cC (.tuple [(.int (0)), (.int (1))])) aNil)))))) (cVar 3) (cCall call 17 (aCons (cVar 2) (aCons (cVar 3) aNil)))))))
theorem body47 (call : Calls) : denB (den 30) (ctxOf pg call F47) 100 F47.body = b47 call := by kernel_rfl
theorem ps47 : F47.ps.length = 1 := by kernel_rfl
theorem N47 : F47.N.length = 4 := rfl
theorem c47 (k : Nat) (x0 : D) (S : List Ob) : callN pg (k + 1) 47 [x0] S = endRc (b47 (callN pg k) ⟨[some (.d x0), none, none, none], S⟩) := by
  show runF pg (callN pg k) F47 [x0] S = _
  unfold runF; rw [body47, ps47, N47]; rfl
/-- atom_span -/
def b48 (call : Calls) : St' := (sSeq (sIf (tB (cOp2 fEq (.val (cOp2 fIx (.var 0) (.val (cC (.int (0)))))) (.val (cC (.str ("input" : Str)))))) (sRet (cOp2 fIx (.var 1) (.val (cOp2 fIx (.var 0) (.val (cC (.int (1)))))))) sNil) (sSeq (sIf (tB (cOp2 fEq (.val (cOp2 fIx (.var 0) (.val (cC (.int (0)))))) (.val (cC (.str ("state" : Str)))))) (sRet (cOp2 fIx (.var 2) (.val (cOp2 fIx (.var 0) (.val (cC (.int (1)))))))) sNil) (sSeq (sAsg (gNm 3 .own) (cLc (iVal (cCut (.var 0) (some (cC (.int (1)))) none)) (gNm 5 .val) tYesM (cCall call 46 (aCons (cVar 5) (aCons (cVar 1) (aCons (cVar 2) aNil)))) [4, 5])) (sSeq (sIf (tB (cOp2 fEq (.val (cOp2 fIx (.var 0) (.val (cC (.int (0)))))) (.val (cC (.str ("least" : Str)))))) (sRet (cCall call 15 (aCons (cOp2 fIx (.var 3) (.val (cC (.int (0))))) (aCons (cOp2 fIx (.var 3) (.val (cC (.int (1))))) aNil)))) sNil) (sRet (cIf (tB (cOp2 fEq (.val (cOp2 fIx (.var 0) (.val (cC (.int (0)))))) (.val (cC (.str ("most" : Str)))))) (cCall call 16 (aCons (cOp2 fIx (.var 3) (.val (cC (.int (0))))) (aCons (cOp2 fIx (.var 3) (.val (cC (.int (1))))) aNil))) (cCall call 47 (aCons (cVar 3) aNil))))))))
theorem body48 (call : Calls) : denB (den 30) (ctxOf pg call F48) 100 F48.body = b48 call := by kernel_rfl
theorem ps48 : F48.ps.length = 3 := by kernel_rfl
theorem N48 : F48.N.length = 6 := rfl
theorem c48 (k : Nat) (x0 x1 x2 : D) (S : List Ob) : callN pg (k + 1) 48 [x0, x1, x2] S = endRc (b48 (callN pg k) ⟨[some (.d x0), some (.d x1), some (.d x2), none, none, none], S⟩) := by
  show runF pg (callN pg k) F48 [x0, x1, x2] S = _
  unfold runF; rw [body48, ps48, N48]; rfl
/-- parts_of -/
def b49 (call : Calls) : St' := (sRet (cIf (tB (cOp2 (fIn false) (.val (cOp2 fIx (.var 0) (.val (cC (.int (0)))))) (.val (cTup (aCons (cC (.str ("input" : Str))) (aCons (cC (.str ("state" : Str))) aNil)))))) (cTup aNil) (cCut (.var 0) (some (cC (.int (1)))) none)))
theorem body49 (call : Calls) : denB (den 30) (ctxOf pg call F49) 100 F49.body = b49 call := by kernel_rfl
theorem ps49 : F49.ps.length = 1 := by kernel_rfl
theorem N49 : F49.N.length = 1 := rfl
theorem c49 (k : Nat) (x0 : D) (S : List Ob) : callN pg (k + 1) 49 [x0] S = endRc (b49 (callN pg k) ⟨[some (.d x0)], S⟩) := by
  show runF pg (callN pg k) F49 [x0] S = _
  unfold runF; rw [body49, ps49, N49]; rfl
/-- atoms_in -/
def b50 (call : Calls) : St' := (sSeq (sPar2 1 .own 2 .own cNewT (cLst (aCons (cVar 0) aNil))) (sSeq (sWhile (tTru (.var 2)) (sFor (iVal (cMt0 2 fPop)) (gTp 2 (gsCons (gNm 3 .own) (gsCons (gNm 4 .own) gsNil))) (sFor (iVar 3) (gTp 2 (gsCons (gNm 5 .own) (gsCons (gNm 6 .own) gsNil))) (sSeq (sIf (tB (cOp2 (fIn false) (.val (cOp2 fIx (.var 5) (.val (cC (.int (0)))))) (.val (cTup (aCons (cC (.str ("input" : Str))) (aCons (cC (.str ("state" : Str))) aNil)))))) (sDPutM kc 1 (cC (.bool true)) (cVar 5)) sNil) (sDrop (cMt1 2 fExtAll (cCall call 49 (aCons (cVar 5) aNil)))))))) (sRet (cOp1 fTuple (.val (cOp1 fSortAll (.var 1)))))))
theorem body50 (call : Calls) : denB (den 30) (ctxOf pg call F50) 100 F50.body = b50 call := by kernel_rfl
theorem ps50 : F50.ps.length = 1 := by kernel_rfl
theorem N50 : F50.N.length = 7 := rfl
theorem c50 (k : Nat) (x0 : D) (S : List Ob) : callN pg (k + 1) 50 [x0] S = endRc (b50 (callN pg k) ⟨[some (.d x0), none, none, none, none, none, none], S⟩) := by
  show runF pg (callN pg k) F50 [x0] S = _
  unfold runF; rw [body50, ps50, N50]; rfl
/-- corners -/
def b51 (call : Calls) : St' := (sSeq (sPar2 3 .own 4 .own (cCall call 50 (aCons (cVar 0) aNil)) (cLst (aCons (cTup (aCons (cLc (iVar 1) (gNm 14 .val) tYesM (cOp2 fIx (.var 14) (.val (cC (.int (0))))) [13, 14]) (aCons (cLc (iVar 2) (gNm 14 .val) tYesM (cOp2 fIx (.var 14) (.val (cC (.int (0))))) [13, 14]) aNil))) aNil))) (sSeq (sAsg (gNm 5 .own) (cC (.int (1)))) (sSeq (sFor (iVar 3) (gNm 6 .own) (sAsg (gNm 5 .own) (cOp2 fMul (.var 5) (.val (cC (.int (2))))))) (sSeq (sIf (tB (cOp2 fGt (.var 5) (.val (cC (.int (3000)))))) sBad sNil) (sSeq (sFor (iVar 3) (gTp 2 (gsCons (gNm 7 .own) (gsCons (gNm 8 .own) gsNil))) (sSeq (sAsg (gNm 9 .own) (cLst aNil)) (sSeq (sFor (iVar 4) (gTp 2 (gsCons (gNm 10 .own) (gsCons (gNm 11 .own) gsNil))) (sFor (iVal (cOp2 fIx (.val (cIf (tB (cOp2 fEq (.var 7) (.val (cC (.str ("input" : Str)))))) (cVar 1) (cVar 2))) (.var 8))) (gNm 12 .own) (sDrop (cMt1 9 fAppend (cCall call 52 (aCons (cVar 10) (aCons (cVar 11) (aCons (cVar 7) (aCons (cVar 8) (aCons (cVar 12) aNil)))))))))) (sAsg (gNm 4 .own) (cVar 9))))) (sRetV 4))))))
theorem body51 (call : Calls) : denB (den 30) (ctxOf pg call F51) 100 F51.body = b51 call := by kernel_rfl
theorem ps51 : F51.ps.length = 3 := by kernel_rfl
theorem N51 : F51.N.length = 15 := rfl
theorem c51 (k : Nat) (x0 x1 x2 : D) (S : List Ob) : callN pg (k + 1) 51 [x0, x1, x2] S = endRc (b51 (callN pg k) ⟨[some (.d x0), some (.d x1), some (.d x2), none, none, none, none, none, none, none, none, none, none, none, none], S⟩) := by
  show runF pg (callN pg k) F51 [x0, x1, x2] S = _
  unfold runF; rw [body51, ps51, N51]; rfl
/-- with_end -/
def b52 (call : Calls) : St' := (sSeq (sIf (tB (cOp2 fEq (.var 2) (.val (cC (.str ("input" : Str)))))) (sRet (cTup (aCons (cLst (aStar (.val (cCut (.var 0) none (some (cVar 3)))) (aCons (cVar 4) (aStar (.val (cCut (.var 0) (some (cOp2 fAdd (.var 3) (.val (cC (.int (1)))))) none)) aNil)))) (aCons (cVar 1) aNil)))) sNil) (sRet (cTup (aCons (cVar 0) (aCons (cLst (aStar (.val (cCut (.var 1) none (some (cVar 3)))) (aCons (cVar 4) (aStar (.val (cCut (.var 1) (some (cOp2 fAdd (.var 3) (.val (cC (.int (1)))))) none)) aNil)))) aNil)))))
theorem body52 (call : Calls) : denB (den 30) (ctxOf pg call F52) 100 F52.body = b52 call := by kernel_rfl
theorem ps52 : F52.ps.length = 5 := by kernel_rfl
theorem N52 : F52.N.length = 5 := rfl
theorem c52 (k : Nat) (x0 x1 x2 x3 x4 : D) (S : List Ob) : callN pg (k + 1) 52 [x0, x1, x2, x3, x4] S = endRc (b52 (callN pg k) ⟨[some (.d x0), some (.d x1), some (.d x2), some (.d x3), some (.d x4)], S⟩) := by
  show runF pg (callN pg k) F52 [x0, x1, x2, x3, x4] S = _
  unfold runF; rw [body52, ps52, N52]; rfl
/-- corner_span -/
def b53 (call : Calls) : St' := (sRet (cCall call 11 (aCons (cLc (iVal (cCall call 51 (aCons (cVar 0) (aCons (cVar 1) (aCons (cVar 2) aNil))))) (gTp 2 (gsCons (gNm 4 .val) (gsCons (gNm 5 .val) gsNil))) tYesM (cCall call 44 (aCons (cVar 0) (aCons (cVar 4) (aCons (cVar 5) aNil)))) [3, 4, 5]) aNil)))
theorem body53 (call : Calls) : denB (den 30) (ctxOf pg call F53) 100 F53.body = b53 call := by kernel_rfl
theorem ps53 : F53.ps.length = 3 := by kernel_rfl
theorem N53 : F53.N.length = 6 := rfl
theorem c53 (k : Nat) (x0 x1 x2 : D) (S : List Ob) : callN pg (k + 1) 53 [x0, x1, x2] S = endRc (b53 (callN pg k) ⟨[some (.d x0), some (.d x1), some (.d x2), none, none, none], S⟩) := by
  show runF pg (callN pg k) F53 [x0, x1, x2] S = _
  unfold runF; rw [body53, ps53, N53]; rfl
/-- unit -/
def b54 (call : Calls) : St' := (sRet (cCall call 9 (aCons (cOp2 fSub (.val (cC (.int (0)))) (.var 0)) aNil)))
theorem body54 (call : Calls) : denB (den 30) (ctxOf pg call F54) 100 F54.body = b54 call := by kernel_rfl
theorem ps54 : F54.ps.length = 1 := by kernel_rfl
theorem N54 : F54.N.length = 1 := rfl
theorem c54 (k : Nat) (x0 : D) (S : List Ob) : callN pg (k + 1) 54 [x0] S = endRc (b54 (callN pg k) ⟨[some (.d x0)], S⟩) := by
  show runF pg (callN pg k) F54 [x0] S = _
  unfold runF; rw [body54, ps54, N54]; rfl
/-- span_of -/
def b55 (call : Calls) : St' := (sRet (cTup (aCons (cOp2 fIx (.var 0) (.val (cC (.int (1))))) (aCons (cOp2 fIx (.var 0) (.val (cC (.int (2))))) aNil))))
theorem body55 (call : Calls) : denB (den 30) (ctxOf pg call F55) 100 F55.body = b55 call := by kernel_rfl
theorem ps55 : F55.ps.length = 1 := by kernel_rfl
theorem N55 : F55.N.length = 1 := rfl
theorem c55 (k : Nat) (x0 : D) (S : List Ob) : callN pg (k + 1) 55 [x0] S = endRc (b55 (callN pg k) ⟨[some (.d x0)], S⟩) := by
  show runF pg (callN pg k) F55 [x0] S = _
  unfold runF; rw [body55, ps55, N55]; rfl
/-- sum_row -/
def b56 (call : Calls) : St' := (sSeq (sAsg (gTp 2 (gsCons (gNm 3 .own) (gsCons (gNm 4 .own) gsNil))) (cCallV call (cTab [(("add" : Str), (dFn 12)), (("sub" : Str), (dFn 13)), (("least" : Str), (dFn 15)), (("most" : Str), (dFn 16))] (cVar 0)) (aCons (cCall call 55 (aCons (cVar 1) aNil)) (aCons (cCall call 55 (aCons (cVar 2) aNil)) aNil)))) (sRet (cTup (aCons (cOp2 fIx (.var 1) (.val (cC (.int (0))))) (aCons (cVar 3) (aCons (cVar 4) (aCons (cCall call 2 (aCons (cOp2 fIx (.var 1) (.val (cC (.int (3))))) (aCons (cOp2 fIx (.var 2) (.val (cC (.int (3))))) aNil))) aNil)))))))
theorem body56 (call : Calls) : denB (den 30) (ctxOf pg call F56) 100 F56.body = b56 call := by kernel_rfl
theorem ps56 : F56.ps.length = 3 := by kernel_rfl
theorem N56 : F56.N.length = 5 := rfl
theorem c56 (k : Nat) (x0 x1 x2 : D) (S : List Ob) : callN pg (k + 1) 56 [x0, x1, x2] S = endRc (b56 (callN pg k) ⟨[some (.d x0), some (.d x1), some (.d x2), none, none], S⟩) := by
  show runF pg (callN pg k) F56 [x0, x1, x2] S = _
  unfold runF; rw [body56, ps56, N56]; rfl
/-- mul_row -/
def b57 (call : Calls) : St' := (sSeq (sAsg (gNm 3 .own) (cOp2 fSub (.val (cOp2 fAdd (.val (cOp2 fIx (.var 0) (.val (cC (.int (0)))))) (.val (cOp2 fIx (.var 1) (.val (cC (.int (0)))))))) (.var 2))) (sSeq (sAsg (gTp 2 (gsCons (gNm 4 .own) (gsCons (gNm 5 .own) gsNil))) (cCall call 14 (aCons (cCall call 55 (aCons (cVar 0) aNil)) (aCons (cCall call 55 (aCons (cVar 1) aNil)) aNil)))) (sSeq (sPar2 6 .own 7 .own (cCall call 4 (aCons (cCall call 21 (aCons (cCall call 55 (aCons (cVar 0) aNil)) aNil)) (aCons (cOp2 fIx (.var 1) (.val (cC (.int (3))))) aNil))) (cCall call 4 (aCons (cCall call 21 (aCons (cCall call 55 (aCons (cVar 1) aNil)) aNil)) (aCons (cOp2 fIx (.var 0) (.val (cC (.int (3))))) aNil)))) (sSeq (sAsg (gNm 8 .own) (cCall call 2 (aCons (cCall call 2 (aCons (cVar 6) (aCons (cVar 7) aNil))) (aCons (cCall call 4 (aCons (cOp2 fIx (.var 0) (.val (cC (.int (3))))) (aCons (cOp2 fIx (.var 1) (.val (cC (.int (3))))) aNil))) aNil)))) (sRet (cTup (aCons (cVar 3) (aCons (cVar 4) (aCons (cVar 5) (aCons (cIf (tB (cOp2 fGt (.var 2) (.val (cC (.int (0)))))) (cCall call 2 (aCons (cVar 8) (aCons (cCall call 54 (aCons (cVar 3) aNil)) aNil))) (cVar 8)) aNil))))))))))
theorem body57 (call : Calls) : denB (den 30) (ctxOf pg call F57) 100 F57.body = b57 call := by kernel_rfl
theorem ps57 : F57.ps.length = 3 := by kernel_rfl
theorem N57 : F57.N.length = 9 := rfl
theorem c57 (k : Nat) (x0 x1 x2 : D) (S : List Ob) : callN pg (k + 1) 57 [x0, x1, x2] S = endRc (b57 (callN pg k) ⟨[some (.d x0), some (.d x1), some (.d x2), none, none, none, none, none, none], S⟩) := by
  show runF pg (callN pg k) F57 [x0, x1, x2] S = _
  unfold runF; rw [body57, ps57, N57]; rfl
/-- chosen_row -/
def b58 (call : Calls) : St' := (sSeq (sAsg (gTp 2 (gsCons (gNm 3 .own) (gsCons (gNm 4 .own) gsNil))) (cCallV call (cTab [(("add" : Str), (dFn 12)), (("sub" : Str), (dFn 13)), (("least" : Str), (dFn 15)), (("most" : Str), (dFn 16))] (cVar 0)) (aCons (cCall call 55 (aCons (cVar 1) aNil)) (aCons (cCall call 55 (aCons (cVar 2) aNil)) aNil)))) (sRet (cTup (aCons (cOp2 fIx (.var 1) (.val (cC (.int (0))))) (aCons (cVar 3) (aCons (cVar 4) (aCons (cCall call 8 (aCons (cOp2 fIx (.var 1) (.val (cC (.int (3))))) (aCons (cOp2 fIx (.var 2) (.val (cC (.int (3))))) aNil))) aNil)))))))
theorem body58 (call : Calls) : denB (den 30) (ctxOf pg call F58) 100 F58.body = b58 call := by kernel_rfl
theorem ps58 : F58.ps.length = 3 := by kernel_rfl
theorem N58 : F58.N.length = 5 := rfl
theorem c58 (k : Nat) (x0 x1 x2 : D) (S : List Ob) : callN pg (k + 1) 58 [x0, x1, x2] S = endRc (b58 (callN pg k) ⟨[some (.d x0), some (.d x1), some (.d x2), none, none], S⟩) := by
  show runF pg (callN pg k) F58 [x0, x1, x2] S = _
  unfold runF; rw [body58, ps58, N58]; rfl
/-- apart -/
def b59 (call : Calls) : St' := (sRet (cCall call 8 (aCons (cC (.tuple [(.int (0)), (.int (1))])) (aCons (cCall call 8 (aCons (cCall call 3 (aCons (cOp2 fIx (.var 0) (.val (cC (.int (2))))) (aCons (cOp2 fIx (.var 1) (.val (cC (.int (1))))) aNil))) (aCons (cCall call 3 (aCons (cOp2 fIx (.var 1) (.val (cC (.int (2))))) (aCons (cOp2 fIx (.var 0) (.val (cC (.int (1))))) aNil))) aNil))) aNil))))
theorem body59 (call : Calls) : denB (den 30) (ctxOf pg call F59) 100 F59.body = b59 call := by kernel_rfl
theorem ps59 : F59.ps.length = 2 := by kernel_rfl
theorem N59 : F59.N.length = 2 := rfl
theorem c59 (k : Nat) (x0 x1 : D) (S : List Ob) : callN pg (k + 1) 59 [x0, x1] S = endRc (b59 (callN pg k) ⟨[some (.d x0), some (.d x1)], S⟩) := by
  show runF pg (callN pg k) F59 [x0, x1] S = _
  unfold runF; rw [body59, ps59, N59]; rfl
/-- pick_row -/
def b60 (call : Calls) : St' := (sSeq (sAsg (gNm 4 .own) (cCall call 2 (aCons (cOp2 fIx (.var 0) (.val (cC (.int (3))))) (aCons (cOp2 fIx (.var 1) (.val (cC (.int (3))))) aNil)))) (sSeq (sIf (tTru (.val (cCall call 6 (aCons (cCall call 2 (aCons (cOp2 fIx (.var 0) (.val (cC (.int (2))))) (aCons (cVar 4) aNil))) (aCons (cOp2 fIx (.var 1) (.val (cC (.int (1))))) aNil))))) (sRetV 2) sNil) (sSeq (sIf (tNotM (tTru (.val (cCall call 6 (aCons (cCall call 3 (aCons (cOp2 fIx (.var 0) (.val (cC (.int (1))))) (aCons (cVar 4) aNil))) (aCons (cOp2 fIx (.var 1) (.val (cC (.int (2))))) aNil)))))) (sRetV 3) sNil) (sSeq (sAsg (gTp 2 (gsCons (gNm 5 .own) (gsCons (gNm 6 .own) gsNil))) (cCall call 17 (aCons (cCall call 55 (aCons (cVar 2) aNil)) (aCons (cCall call 55 (aCons (cVar 3) aNil)) aNil)))) (sSeq (sAsg (gNm 7 .own) (cCall call 8 (aCons (cOp2 fIx (.var 2) (.val (cC (.int (3))))) (aCons (cOp2 fIx (.var 3) (.val (cC (.int (3))))) aNil)))) (sRet (cTup (aCons (cOp2 fIx (.var 2) (.val (cC (.int (0))))) (aCons (cVar 5) (aCons (cVar 6) (aCons (cIf (tB (cOp2 fEq (.var 4) (.val (cC (.tuple [(.int (0)), (.int (1))]))))) (cVar 7) (cCall call 2 (aCons (cVar 7) (aCons (cCall call 59 (aCons (cVar 2) (aCons (cVar 3) aNil))) aNil)))) aNil)))))))))))
theorem body60 (call : Calls) : denB (den 30) (ctxOf pg call F60) 100 F60.body = b60 call := by kernel_rfl
theorem ps60 : F60.ps.length = 4 := by kernel_rfl
theorem N60 : F60.N.length = 8 := rfl
theorem c60 (k : Nat) (x0 x1 x2 x3 : D) (S : List Ob) : callN pg (k + 1) 60 [x0, x1, x2, x3] S = endRc (b60 (callN pg k) ⟨[some (.d x0), some (.d x1), some (.d x2), some (.d x3), none, none, none, none], S⟩) := by
  show runF pg (callN pg k) F60 [x0, x1, x2, x3] S = _
  unfold runF; rw [body60, ps60, N60]; rfl
/-- _law_bag -/
def b61 (call : Calls) : St' := (sRet (cLst (aCons (cC (.int (0))) (aCons (cC (.int (1234567891))) (aCons (cC (.int (0))) (aCons (cLc (iVal (cCut (.var 0) none (some (cC (.int (63)))))) (gNm 2 .val) tYesM (cOp1 fAbs (.var 2)) [1, 2]) aNil))))))
theorem body61 (call : Calls) : denB (den 30) (ctxOf pg call F61) 100 F61.body = b61 call := by kernel_rfl
theorem ps61 : F61.ps.length = 1 := by kernel_rfl
theorem N61 : F61.N.length = 3 := rfl
theorem c61 (k : Nat) (x0 : D) (S : List Ob) : callN pg (k + 1) 61 [x0] S = endRc (b61 (callN pg k) ⟨[some (.d x0), none, none], S⟩) := by
  show runF pg (callN pg k) F61 [x0] S = _
  unfold runF; rw [body61, ps61, N61]; rfl
/-- _law_take -/
def b62 (call : Calls) : St' := (sSeq (sIf (tB (cOp2 fEq (.val (cOp2 fIx (.var 0) (.val (cC (.int (0)))))) (.val (cC (.int (0)))))) (sSeq (sAsg (gNm 2 .own) (cOp2 fIx (.val (cOp2 fAdd (.val (cCut (.val (cOp2 fIx (.var 0) (.val (cC (.int (3)))))) (some (cOp2 fIx (.var 0) (.val (cC (.int (2)))))) none)) (.val (cLst (aCons (cC (.int (0))) aNil))))) (.val (cC (.int (0)))))) (sSeq (sAugS 0 fAdd' (cC (.int (2))) (cC (.int (1)))) (sSeq (sIf (tB (cOp2 fGe (.var 2) (.val (cOp2 fPow (.val (cC (.int (10)))) (.val (cC (.int (18)))))))) (sAsg (gSet 0 (cC (.int (0)))) (cVar 2)) sNil) (sSeq (sAsg (gNm 3 .own) (cOp2 fAdd (.val (cOp2 fAdd (.val (cOp2 fMul (.val (cOp2 fIx (.var 0) (.val (cC (.int (1)))))) (.val (cC (.int (48271)))))) (.val (cOp2 fMod (.val (cOp1 fInt1 (.var 2))) (.val (cC (.int (2147483647)))))))) (.val (cOp2 fMul (.val (cC (.int (7919)))) (.val (cOp2 fIx (.var 0) (.val (cC (.int (2)))))))))) (sAsg (gSet 0 (cC (.int (1)))) (cOp2 fMod (.val (cOp1 fInt1 (.var 3))) (.val (cC (.int (2147483647)))))))))) sNil) (sSeq (sIf (tB (cOp2 fGt (.val (cOp2 fIx (.var 0) (.val (cC (.int (0)))))) (.val (cC (.int (0)))))) (sSeq (sAsg (gNm 4 .own) (cOp2 fMod (.val (cOp1 fInt1 (.val (cOp2 fIx (.var 0) (.val (cC (.int (0)))))))) (.var 1))) (sSeq (sAsg (gSet 0 (cC (.int (0)))) (cOp2 fDiv (.val (cOp1 fInt1 (.val (cOp2 fIx (.var 0) (.val (cC (.int (0)))))))) (.var 1))) (sRetV 4))) sNil) (sSeq (sAsg (gNm 5 .own) (cOp2 fMod (.val (cOp1 fInt1 (.val (cOp2 fMul (.val (cOp2 fAdd (.val (cOp2 fIx (.var 0) (.val (cC (.int (1)))))) (.val (cC (.int (1)))))) (.val (cC (.int (39373)))))))) (.val (cC (.int (1000000007)))))) (sSeq (sAsg (gNm 6 .own) (cOp2 fMod (.val (cOp1 fInt1 (.val (cOp2 fMul (.val (cOp2 fMod (.val (cOp1 fInt1 (.val (cOp2 fMul (.var 5) (.var 5))))) (.val (cC (.int (998244353)))))) (.val (cC (.int (30011)))))))) (.val (cC (.int (998244353)))))) (sRet (cOp2 fMod (.val (cOp1 fInt1 (.val (cOp2 fDiv (.var 6) (.val (cC (.int (7)))))))) (.var 1)))))))
theorem body62 (call : Calls) : denB (den 30) (ctxOf pg call F62) 100 F62.body = b62 call := by kernel_rfl
theorem ps62 : F62.ps.length = 2 := by kernel_rfl
theorem N62 : F62.N.length = 7 := rfl
theorem c62 (k : Nat) (x0 x1 : D) (S : List Ob) : callN pg (k + 1) 62 [x0, x1] S = endRc (b62 (callN pg k) ⟨[some (.d x0), some (.d x1), none, none, none, none, none], S⟩) := by
  show runF pg (callN pg k) F62 [x0, x1] S = _
  unfold runF; rw [body62, ps62, N62]; rfl
/-- _law_some -/
def b63 (call : Calls) : St' := (sRet (cOp2 fIx (.var 1) (.val (cCall call 62 (aCons (cVar 0) (aCons (cOp1 fLen (.var 1)) aNil))))))
theorem body63 (call : Calls) : denB (den 30) (ctxOf pg call F63) 100 F63.body = b63 call := by kernel_rfl
theorem ps63 : F63.ps.length = 2 := by kernel_rfl
theorem N63 : F63.N.length = 2 := rfl
theorem c63 (k : Nat) (x0 x1 : D) (S : List Ob) : callN pg (k + 1) 63 [x0, x1] S = endRc (b63 (callN pg k) ⟨[some (.d x0), some (.d x1)], S⟩) := by
  show runF pg (callN pg k) F63 [x0, x1] S = _
  unfold runF; rw [body63, ps63, N63]; rfl
/-- _law_alike -/
def b64 (call : Calls) : St' := (sSeq (sPar2 2 .own 3 .own (cLst (aCons (cTup (aCons (cVar 0) (aCons (cVar 1) aNil))) aNil)) (cC (.int (0)))) (sSeq (sWhile (tB (cOp2 fLt (.var 3) (.val (cOp1 fLen (.var 2))))) (sSeq (sAsg (gTp 2 (gsCons (gNm 4 .own) (gsCons (gNm 5 .own) gsNil))) (cOp2 fIx (.var 2) (.var 3))) (sSeq (sAug 3 .own fAdd' (cC (.int (1)))) (sSeq (sIf (tOrM [(tB (cOp2 fNe (.val (cOp1 (fIsi ["bool"]) (.var 4))) (.val (cOp1 (fIsi ["bool"]) (.var 5))))), (tB (cOp2 fNe (.val (cOp1 (fIsi ["str"]) (.var 4))) (.val (cOp1 (fIsi ["str"]) (.var 5)))))]) (sRet (cC (.bool false))) sNil) (sSeq (sIf (tB (cOp2 fNe (.val (cOp1 (fIsi ["tuple", "list"]) (.var 4))) (.val (cOp1 (fIsi ["tuple", "list"]) (.var 5))))) (sRet (cC (.bool false))) sNil) (sIf (tTru (.val (cOp1 (fIsi ["tuple", "list"]) (.var 4)))) (sSeq (sIf (tOrM [(tB (cOp2 fNe (.val (cOp1 (fIsi ["tuple"]) (.var 4))) (.val (cOp1 (fIsi ["tuple"]) (.var 5))))), (tB (cOp2 fNe (.val (cOp1 fLen (.var 4))) (.val (cOp1 fLen (.var 5)))))]) (sRet (cC (.bool false))) sNil) (sDrop (cMt1 2 fExtAll (cLZip (aCons (cVar 4) (aCons (cVar 5) aNil)))))) (sIf (tB (cOp2 fNe (.var 4) (.var 5))) (sRet (cC (.bool false))) sNil))))))) (sRet (cC (.bool true)))))
theorem body64 (call : Calls) : denB (den 30) (ctxOf pg call F64) 100 F64.body = b64 call := by kernel_rfl
theorem ps64 : F64.ps.length = 2 := by kernel_rfl
theorem N64 : F64.N.length = 6 := rfl
theorem c64 (k : Nat) (x0 x1 : D) (S : List Ob) : callN pg (k + 1) 64 [x0, x1] S = endRc (b64 (callN pg k) ⟨[some (.d x0), some (.d x1), none, none, none, none], S⟩) := by
  show runF pg (callN pg k) F64 [x0, x1] S = _
  unfold runF; rw [body64, ps64, N64]; rfl
/-- _law_made -/
def b65 (call : Calls) : St' := (sSeq (sPar2 2 .own 3 .own (cOp1 fAbs (.var 0)) (cOp1 fAbs (.var 1))) (sSeq (sWhile (tB (cOp2 fGt (.var 3) (.val (cC (.int (0)))))) (sPar2 2 .own 3 .own (cVar 3) (cOp2 fMod (.val (cOp1 fInt1 (.var 2))) (.var 3)))) (sSeq (sAsg (gNm 2 .own) (cIf (tB (cOp2 fGt (.var 1) (.val (cC (.int (0)))))) (cVar 2) (cOp1 fNeg (.var 2)))) (sRet (cTup (aCons (cOp2 fDiv (.val (cOp1 fInt1 (.var 0))) (.var 2)) (aCons (cOp2 fDiv (.val (cOp1 fInt1 (.var 1))) (.var 2)) aNil)))))))
theorem body65 (call : Calls) : denB (den 30) (ctxOf pg call F65) 100 F65.body = b65 call := by kernel_rfl
theorem ps65 : F65.ps.length = 2 := by kernel_rfl
theorem N65 : F65.N.length = 4 := rfl
theorem c65 (k : Nat) (x0 x1 : D) (S : List Ob) : callN pg (k + 1) 65 [x0, x1] S = endRc (b65 (callN pg k) ⟨[some (.d x0), some (.d x1), none, none], S⟩) := by
  show runF pg (callN pg k) F65 [x0, x1] S = _
  unfold runF; rw [body65, ps65, N65]; rfl
/-- _law_add -/
def b66 (call : Calls) : St' := (sRet (cCall call 65 (aCons (cOp2 fAdd (.val (cOp2 fMul (.val (cOp2 fIx (.var 0) (.val (cC (.int (0)))))) (.val (cOp2 fIx (.var 1) (.val (cC (.int (1)))))))) (.val (cOp2 fMul (.val (cOp2 fIx (.var 1) (.val (cC (.int (0)))))) (.val (cOp2 fIx (.var 0) (.val (cC (.int (1))))))))) (aCons (cOp2 fMul (.val (cOp2 fIx (.var 0) (.val (cC (.int (1)))))) (.val (cOp2 fIx (.var 1) (.val (cC (.int (1))))))) aNil))))
theorem body66 (call : Calls) : denB (den 30) (ctxOf pg call F66) 100 F66.body = b66 call := by kernel_rfl
theorem ps66 : F66.ps.length = 2 := by kernel_rfl
theorem N66 : F66.N.length = 2 := rfl
theorem c66 (k : Nat) (x0 x1 : D) (S : List Ob) : callN pg (k + 1) 66 [x0, x1] S = endRc (b66 (callN pg k) ⟨[some (.d x0), some (.d x1)], S⟩) := by
  show runF pg (callN pg k) F66 [x0, x1] S = _
  unfold runF; rw [body66, ps66, N66]; rfl
/-- _law_sub -/
def b67 (call : Calls) : St' := (sRet (cCall call 65 (aCons (cOp2 fSub (.val (cOp2 fMul (.val (cOp2 fIx (.var 0) (.val (cC (.int (0)))))) (.val (cOp2 fIx (.var 1) (.val (cC (.int (1)))))))) (.val (cOp2 fMul (.val (cOp2 fIx (.var 1) (.val (cC (.int (0)))))) (.val (cOp2 fIx (.var 0) (.val (cC (.int (1))))))))) (aCons (cOp2 fMul (.val (cOp2 fIx (.var 0) (.val (cC (.int (1)))))) (.val (cOp2 fIx (.var 1) (.val (cC (.int (1))))))) aNil))))
theorem body67 (call : Calls) : denB (den 30) (ctxOf pg call F67) 100 F67.body = b67 call := by kernel_rfl
theorem ps67 : F67.ps.length = 2 := by kernel_rfl
theorem N67 : F67.N.length = 2 := rfl
theorem c67 (k : Nat) (x0 x1 : D) (S : List Ob) : callN pg (k + 1) 67 [x0, x1] S = endRc (b67 (callN pg k) ⟨[some (.d x0), some (.d x1)], S⟩) := by
  show runF pg (callN pg k) F67 [x0, x1] S = _
  unfold runF; rw [body67, ps67, N67]; rfl
/-- _law_mul -/
def b68 (call : Calls) : St' := (sRet (cCall call 65 (aCons (cOp2 fMul (.val (cOp2 fIx (.var 0) (.val (cC (.int (0)))))) (.val (cOp2 fIx (.var 1) (.val (cC (.int (0))))))) (aCons (cOp2 fMul (.val (cOp2 fIx (.var 0) (.val (cC (.int (1)))))) (.val (cOp2 fIx (.var 1) (.val (cC (.int (1))))))) aNil))))
theorem body68 (call : Calls) : denB (den 30) (ctxOf pg call F68) 100 F68.body = b68 call := by kernel_rfl
theorem ps68 : F68.ps.length = 2 := by kernel_rfl
theorem N68 : F68.N.length = 2 := rfl
theorem c68 (k : Nat) (x0 x1 : D) (S : List Ob) : callN pg (k + 1) 68 [x0, x1] S = endRc (b68 (callN pg k) ⟨[some (.d x0), some (.d x1)], S⟩) := by
  show runF pg (callN pg k) F68 [x0, x1] S = _
  unfold runF; rw [body68, ps68, N68]; rfl
/-- _law_less -/
def b69 (call : Calls) : St' := (sRet (cOp2 fLt (.val (cOp2 fMul (.val (cOp2 fIx (.var 0) (.val (cC (.int (0)))))) (.val (cOp2 fIx (.var 1) (.val (cC (.int (1)))))))) (.val (cOp2 fMul (.val (cOp2 fIx (.var 1) (.val (cC (.int (0)))))) (.val (cOp2 fIx (.var 0) (.val (cC (.int (1))))))))))
theorem body69 (call : Calls) : denB (den 30) (ctxOf pg call F69) 100 F69.body = b69 call := by kernel_rfl
theorem ps69 : F69.ps.length = 2 := by kernel_rfl
theorem N69 : F69.N.length = 2 := rfl
theorem c69 (k : Nat) (x0 x1 : D) (S : List Ob) : callN pg (k + 1) 69 [x0, x1] S = endRc (b69 (callN pg k) ⟨[some (.d x0), some (.d x1)], S⟩) := by
  show runF pg (callN pg k) F69 [x0, x1] S = _
  unfold runF; rw [body69, ps69, N69]; rfl
/-- _law_abs -/
def b70 (call : Calls) : St' := (sRet (cTup (aCons (cOp1 fAbs (.val (cOp2 fIx (.var 0) (.val (cC (.int (0))))))) (aCons (cOp2 fIx (.var 0) (.val (cC (.int (1))))) aNil))))
theorem body70 (call : Calls) : denB (den 30) (ctxOf pg call F70) 100 F70.body = b70 call := by kernel_rfl
theorem ps70 : F70.ps.length = 1 := by kernel_rfl
theorem N70 : F70.N.length = 1 := rfl
theorem c70 (k : Nat) (x0 : D) (S : List Ob) : callN pg (k + 1) 70 [x0] S = endRc (b70 (callN pg k) ⟨[some (.d x0)], S⟩) := by
  show runF pg (callN pg k) F70 [x0] S = _
  unfold runF; rw [body70, ps70, N70]; rfl
/-- _law_lesser -/
def b71 (call : Calls) : St' := (sRet (cIf (tTru (.val (cCall call 69 (aCons (cVar 0) (aCons (cVar 1) aNil))))) (cVar 0) (cVar 1)))
theorem body71 (call : Calls) : denB (den 30) (ctxOf pg call F71) 100 F71.body = b71 call := by kernel_rfl
theorem ps71 : F71.ps.length = 2 := by kernel_rfl
theorem N71 : F71.N.length = 2 := rfl
theorem c71 (k : Nat) (x0 x1 : D) (S : List Ob) : callN pg (k + 1) 71 [x0, x1] S = endRc (b71 (callN pg k) ⟨[some (.d x0), some (.d x1)], S⟩) := by
  show runF pg (callN pg k) F71 [x0, x1] S = _
  unfold runF; rw [body71, ps71, N71]; rfl
/-- _law_greater -/
def b72 (call : Calls) : St' := (sRet (cIf (tTru (.val (cCall call 69 (aCons (cVar 0) (aCons (cVar 1) aNil))))) (cVar 1) (cVar 0)))
theorem body72 (call : Calls) : denB (den 30) (ctxOf pg call F72) 100 F72.body = b72 call := by kernel_rfl
theorem ps72 : F72.ps.length = 2 := by kernel_rfl
theorem N72 : F72.N.length = 2 := rfl
theorem c72 (k : Nat) (x0 x1 : D) (S : List Ob) : callN pg (k + 1) 72 [x0, x1] S = endRc (b72 (callN pg k) ⟨[some (.d x0), some (.d x1)], S⟩) := by
  show runF pg (callN pg k) F72 [x0, x1] S = _
  unfold runF; rw [body72, ps72, N72]; rfl
/-- _law_two -/
def b73 (call : Calls) : St' := (sSeq (sPar2 1 .own 2 .own (cOp1 fAbs (.var 0)) (cC (.int (1)))) (sSeq (sFor (iRange1 (cVar 1)) (gNm 3 .own) (sAsg (gNm 2 .own) (cOp2 fMul (.var 2) (.val (cC (.int (2))))))) (sRet (cIf (tB (cOp2 fGe (.var 0) (.val (cC (.int (0)))))) (cTup (aCons (cVar 2) (aCons (cC (.int (1))) aNil))) (cTup (aCons (cC (.int (1))) (aCons (cVar 2) aNil)))))))
theorem body73 (call : Calls) : denB (den 30) (ctxOf pg call F73) 100 F73.body = b73 call := by kernel_rfl
theorem ps73 : F73.ps.length = 1 := by kernel_rfl
theorem N73 : F73.N.length = 4 := rfl
theorem c73 (k : Nat) (x0 : D) (S : List Ob) : callN pg (k + 1) 73 [x0] S = endRc (b73 (callN pg k) ⟨[some (.d x0), none, none, none], S⟩) := by
  show runF pg (callN pg k) F73 [x0] S = _
  unfold runF; rw [body73, ps73, N73]; rfl
/-- _law_span_mul -/
def b74 (call : Calls) : St' := (sSeq (sAsg (gNm 2 .own) (cLst (aCons (cCall call 68 (aCons (cOp2 fIx (.var 0) (.val (cC (.int (0))))) (aCons (cOp2 fIx (.var 1) (.val (cC (.int (0))))) aNil))) (aCons (cCall call 68 (aCons (cOp2 fIx (.var 0) (.val (cC (.int (0))))) (aCons (cOp2 fIx (.var 1) (.val (cC (.int (1))))) aNil))) (aCons (cCall call 68 (aCons (cOp2 fIx (.var 0) (.val (cC (.int (1))))) (aCons (cOp2 fIx (.var 1) (.val (cC (.int (0))))) aNil))) (aCons (cCall call 68 (aCons (cOp2 fIx (.var 0) (.val (cC (.int (1))))) (aCons (cOp2 fIx (.var 1) (.val (cC (.int (1))))) aNil))) aNil)))))) (sSeq (sPar2 3 .own 4 .own (cOp2 fIx (.var 2) (.val (cC (.int (0))))) (cOp2 fIx (.var 2) (.val (cC (.int (0)))))) (sSeq (sFor (iVar 2) (gNm 5 .own) (sPar2 3 .own 4 .own (cCall call 71 (aCons (cVar 3) (aCons (cVar 5) aNil))) (cCall call 72 (aCons (cVar 4) (aCons (cVar 5) aNil))))) (sRet (cTup (aCons (cVar 3) (aCons (cVar 4) aNil)))))))
theorem body74 (call : Calls) : denB (den 30) (ctxOf pg call F74) 100 F74.body = b74 call := by kernel_rfl
theorem ps74 : F74.ps.length = 2 := by kernel_rfl
theorem N74 : F74.N.length = 6 := rfl
theorem c74 (k : Nat) (x0 x1 : D) (S : List Ob) : callN pg (k + 1) 74 [x0, x1] S = endRc (b74 (callN pg k) ⟨[some (.d x0), some (.d x1), none, none, none, none], S⟩) := by
  show runF pg (callN pg k) F74 [x0, x1] S = _
  unfold runF; rw [body74, ps74, N74]; rfl
/-- _law_far -/
def b75 (call : Calls) : St' := (sRet (cCall call 72 (aCons (cCall call 70 (aCons (cOp2 fIx (.var 0) (.val (cC (.int (0))))) aNil)) (aCons (cCall call 70 (aCons (cOp2 fIx (.var 0) (.val (cC (.int (1))))) aNil)) aNil))))
theorem body75 (call : Calls) : denB (den 30) (ctxOf pg call F75) 100 F75.body = b75 call := by kernel_rfl
theorem ps75 : F75.ps.length = 1 := by kernel_rfl
theorem N75 : F75.N.length = 1 := rfl
theorem c75 (k : Nat) (x0 : D) (S : List Ob) : callN pg (k + 1) 75 [x0] S = endRc (b75 (callN pg k) ⟨[some (.d x0)], S⟩) := by
  show runF pg (callN pg k) F75 [x0] S = _
  unfold runF; rw [body75, ps75, N75]; rfl
/-- _law_pick_rule -/
def b76 (call : Calls) : St' := (sSeq (sAsg (gNm 4 .own) (cCall call 66 (aCons (cOp2 fIx (.var 0) (.val (cC (.int (3))))) (aCons (cOp2 fIx (.var 1) (.val (cC (.int (3))))) aNil)))) (sSeq (sIf (tTru (.val (cCall call 69 (aCons (cCall call 66 (aCons (cOp2 fIx (.var 0) (.val (cC (.int (2))))) (aCons (cVar 4) aNil))) (aCons (cOp2 fIx (.var 1) (.val (cC (.int (1))))) aNil))))) (sRet (cTup (aCons (cOp2 fIx (.var 2) (.val (cC (.int (1))))) (aCons (cOp2 fIx (.var 2) (.val (cC (.int (2))))) (aCons (cOp2 fIx (.var 2) (.val (cC (.int (3))))) aNil))))) sNil) (sSeq (sIf (tNotM (tTru (.val (cCall call 69 (aCons (cCall call 67 (aCons (cOp2 fIx (.var 0) (.val (cC (.int (1))))) (aCons (cVar 4) aNil))) (aCons (cOp2 fIx (.var 1) (.val (cC (.int (2))))) aNil)))))) (sRet (cTup (aCons (cOp2 fIx (.var 3) (.val (cC (.int (1))))) (aCons (cOp2 fIx (.var 3) (.val (cC (.int (2))))) (aCons (cOp2 fIx (.var 3) (.val (cC (.int (3))))) aNil))))) sNil) (sSeq (sPar2 5 .own 6 .own (cCall call 71 (aCons (cOp2 fIx (.var 2) (.val (cC (.int (1))))) (aCons (cOp2 fIx (.var 3) (.val (cC (.int (1))))) aNil))) (cCall call 72 (aCons (cOp2 fIx (.var 2) (.val (cC (.int (2))))) (aCons (cOp2 fIx (.var 3) (.val (cC (.int (2))))) aNil)))) (sSeq (sAsg (gNm 7 .own) (cCall call 72 (aCons (cOp2 fIx (.var 2) (.val (cC (.int (3))))) (aCons (cOp2 fIx (.var 3) (.val (cC (.int (3))))) aNil)))) (sSeq (sIf (tB (cOp2 fNe (.var 4) (.val (cTup (aCons (cC (.int (0))) (aCons (cC (.int (1))) aNil)))))) (sAsg (gNm 7 .own) (cCall call 66 (aCons (cVar 7) (aCons (cCall call 75 (aCons (cTup (aCons (cCall call 67 (aCons (cOp2 fIx (.var 2) (.val (cC (.int (1))))) (aCons (cOp2 fIx (.var 3) (.val (cC (.int (2))))) aNil))) (aCons (cCall call 67 (aCons (cOp2 fIx (.var 2) (.val (cC (.int (2))))) (aCons (cOp2 fIx (.var 3) (.val (cC (.int (1))))) aNil))) aNil))) aNil)) aNil)))) sNil) (sRet (cTup (aCons (cVar 5) (aCons (cVar 6) (aCons (cVar 7) aNil)))))))))))
theorem body76 (call : Calls) : denB (den 30) (ctxOf pg call F76) 100 F76.body = b76 call := by kernel_rfl
theorem ps76 : F76.ps.length = 4 := by kernel_rfl
theorem N76 : F76.N.length = 8 := rfl
theorem c76 (k : Nat) (x0 x1 x2 x3 : D) (S : List Ob) : callN pg (k + 1) 76 [x0, x1, x2, x3] S = endRc (b76 (callN pg k) ⟨[some (.d x0), some (.d x1), some (.d x2), some (.d x3), none, none, none, none], S⟩) := by
  show runF pg (callN pg k) F76 [x0, x1, x2, x3] S = _
  unfold runF; rw [body76, ps76, N76]; rfl
/-- _law_part -/
def b77 (call : Calls) : St' := (sSeq (sAsg (gNm 1 .own) (cCall call 62 (aCons (cVar 0) (aCons (cCall call 63 (aCons (cVar 0) (aCons (cLst (aCons (cC (.int (4))) (aCons (cC (.int (9))) (aCons (cC (.int (100))) (aCons (cOp2 fPow (.val (cC (.int (10)))) (.val (cC (.int (12))))) aNil))))) aNil))) aNil)))) (sRet (cCall call 65 (aCons (cIf (tB (cOp2 fEq (.val (cCall call 62 (aCons (cVar 0) (aCons (cC (.int (2))) aNil)))) (.val (cC (.int (0)))))) (cVar 1) (cOp1 fNeg (.var 1))) (aCons (cOp2 fAdd (.val (cC (.int (1)))) (.val (cCall call 62 (aCons (cVar 0) (aCons (cCall call 63 (aCons (cVar 0) (aCons (cLst (aCons (cC (.int (1))) (aCons (cC (.int (4))) (aCons (cC (.int (9))) (aCons (cOp2 fPow (.val (cC (.int (10)))) (.val (cC (.int (9))))) aNil))))) aNil))) aNil))))) aNil)))))
theorem body77 (call : Calls) : denB (den 30) (ctxOf pg call F77) 100 F77.body = b77 call := by kernel_rfl
theorem ps77 : F77.ps.length = 1 := by kernel_rfl
theorem N77 : F77.N.length = 2 := rfl
theorem c77 (k : Nat) (x0 : D) (S : List Ob) : callN pg (k + 1) 77 [x0] S = endRc (b77 (callN pg k) ⟨[some (.d x0), none], S⟩) := by
  show runF pg (callN pg k) F77 [x0] S = _
  unfold runF; rw [body77, ps77, N77]; rfl
/-- _law_span -/
def b78 (call : Calls) : St' := (sSeq (sAsg (gNm 1 .own) (cCall call 77 (aCons (cVar 0) aNil))) (sSeq (sAsg (gNm 2 .own) (cCall call 63 (aCons (cVar 0) (aCons (cLst (aCons (cVar 1) (aCons (cCall call 77 (aCons (cVar 0) aNil)) (aCons (cCall call 66 (aCons (cVar 1) (aCons (cCall call 70 (aCons (cCall call 77 (aCons (cVar 0) aNil)) aNil)) aNil))) (aCons (cTup (aCons (cC (.int (0))) (aCons (cC (.int (1))) aNil))) (aCons (cCall call 68 (aCons (cVar 1) (aCons (cTup (aCons (cOp1 fNeg (.val (cC (.int (1))))) (aCons (cC (.int (1))) aNil))) aNil))) aNil)))))) aNil)))) (sRet (cTup (aCons (cCall call 71 (aCons (cVar 1) (aCons (cVar 2) aNil))) (aCons (cCall call 72 (aCons (cVar 1) (aCons (cVar 2) aNil))) aNil))))))
theorem body78 (call : Calls) : denB (den 30) (ctxOf pg call F78) 100 F78.body = b78 call := by kernel_rfl
theorem ps78 : F78.ps.length = 1 := by kernel_rfl
theorem N78 : F78.N.length = 3 := rfl
theorem c78 (k : Nat) (x0 : D) (S : List Ob) : callN pg (k + 1) 78 [x0] S = endRc (b78 (callN pg k) ⟨[some (.d x0), none, none], S⟩) := by
  show runF pg (callN pg k) F78 [x0] S = _
  unfold runF; rw [body78, ps78, N78]; rfl
/-- _law_inside -/
def b79 (call : Calls) : St' := (sSeq (sAsg (gNm 2 .own) (cCall call 65 (aCons (cCall call 62 (aCons (cVar 0) (aCons (cC (.int (8))) aNil))) (aCons (cC (.int (7))) aNil)))) (sRet (cCall call 66 (aCons (cOp2 fIx (.var 1) (.val (cC (.int (0))))) (aCons (cCall call 68 (aCons (cCall call 67 (aCons (cOp2 fIx (.var 1) (.val (cC (.int (1))))) (aCons (cOp2 fIx (.var 1) (.val (cC (.int (0))))) aNil))) (aCons (cVar 2) aNil))) aNil)))))
theorem body79 (call : Calls) : denB (den 30) (ctxOf pg call F79) 100 F79.body = b79 call := by kernel_rfl
theorem ps79 : F79.ps.length = 2 := by kernel_rfl
theorem N79 : F79.N.length = 3 := rfl
theorem c79 (k : Nat) (x0 x1 : D) (S : List Ob) : callN pg (k + 1) 79 [x0, x1] S = endRc (b79 (callN pg k) ⟨[some (.d x0), some (.d x1), none], S⟩) := by
  show runF pg (callN pg k) F79 [x0, x1] S = _
  unfold runF; rw [body79, ps79, N79]; rfl
/-- _law_least_of -/
def b80 (call : Calls) : St' := (sSeq (sPar2 1 .own 2 .own (cOp2 fIx (.var 0) (.val (cC (.int (0))))) (cOp2 fIx (.var 0) (.val (cC (.int (0)))))) (sSeq (sFor (iVar 0) (gNm 3 .own) (sPar2 1 .own 2 .own (cCall call 71 (aCons (cVar 1) (aCons (cVar 3) aNil))) (cCall call 72 (aCons (cVar 2) (aCons (cVar 3) aNil))))) (sRet (cTup (aCons (cVar 1) (aCons (cVar 2) aNil))))))
theorem body80 (call : Calls) : denB (den 30) (ctxOf pg call F80) 100 F80.body = b80 call := by kernel_rfl
theorem ps80 : F80.ps.length = 1 := by kernel_rfl
theorem N80 : F80.N.length = 4 := rfl
theorem c80 (k : Nat) (x0 : D) (S : List Ob) : callN pg (k + 1) 80 [x0] S = endRc (b80 (callN pg k) ⟨[some (.d x0), none, none, none], S⟩) := by
  show runF pg (callN pg k) F80 [x0] S = _
  unfold runF; rw [body80, ps80, N80]; rfl
/-- _law_power -/
def b81 (call : Calls) : St' := (sSeq (sAsg (gNm 2 .own) (cTup (aCons (cC (.int (1))) (aCons (cC (.int (1))) aNil)))) (sSeq (sFor (iRange1 (cVar 1)) (gNm 3 .own) (sAsg (gNm 2 .own) (cCall call 68 (aCons (cVar 2) (aCons (cVar 0) aNil))))) (sRetV 2)))
theorem body81 (call : Calls) : denB (den 30) (ctxOf pg call F81) 100 F81.body = b81 call := by kernel_rfl
theorem ps81 : F81.ps.length = 2 := by kernel_rfl
theorem N81 : F81.N.length = 4 := rfl
theorem c81 (k : Nat) (x0 x1 : D) (S : List Ob) : callN pg (k + 1) 81 [x0, x1] S = endRc (b81 (callN pg k) ⟨[some (.d x0), some (.d x1), none, none], S⟩) := by
  show runF pg (callN pg k) F81 [x0, x1] S = _
  unfold runF; rw [body81, ps81, N81]; rfl
/-- _law_power_span -/
def b82 (call : Calls) : St' := (sSeq (sAsg (gNm 2 .own) (cLst (aCons (cCall call 81 (aCons (cOp2 fIx (.var 0) (.val (cC (.int (0))))) (aCons (cVar 1) aNil))) (aCons (cCall call 81 (aCons (cOp2 fIx (.var 0) (.val (cC (.int (1))))) (aCons (cVar 1) aNil))) aNil)))) (sSeq (sIf (tAndM [(tB (cOp2 fGt (.var 1) (.val (cC (.int (0)))))), (tNotM (tTru (.val (cCall call 69 (aCons (cTup (aCons (cC (.int (0))) (aCons (cC (.int (1))) aNil))) (aCons (cOp2 fIx (.var 0) (.val (cC (.int (0))))) aNil)))))), (tNotM (tTru (.val (cCall call 69 (aCons (cOp2 fIx (.var 0) (.val (cC (.int (1))))) (aCons (cTup (aCons (cC (.int (0))) (aCons (cC (.int (1))) aNil))) aNil))))))]) (sDrop (cMt1 2 fAppend (cTup (aCons (cC (.int (0))) (aCons (cC (.int (1))) aNil))))) sNil) (sRet (cCall call 80 (aCons (cVar 2) aNil)))))
theorem body82 (call : Calls) : denB (den 30) (ctxOf pg call F82) 100 F82.body = b82 call := by kernel_rfl
theorem ps82 : F82.ps.length = 2 := by kernel_rfl
theorem N82 : F82.N.length = 3 := rfl
theorem c82 (k : Nat) (x0 x1 : D) (S : List Ob) : callN pg (k + 1) 82 [x0, x1] S = endRc (b82 (callN pg k) ⟨[some (.d x0), some (.d x1), none], S⟩) := by
  show runF pg (callN pg k) F82 [x0, x1] S = _
  unfold runF; rw [body82, ps82, N82]; rfl
/-- _law_holds -/
def b83 (call : Calls) : St' := (sRet (cAndM [(cNotM (.val (cCall call 69 (aCons (cVar 1) (aCons (cOp2 fIx (.var 0) (.val (cC (.int (0))))) aNil))))), (cNotM (.val (cCall call 69 (aCons (cOp2 fIx (.var 0) (.val (cC (.int (1))))) (aCons (cVar 1) aNil)))))]))
theorem body83 (call : Calls) : denB (den 30) (ctxOf pg call F83) 100 F83.body = b83 call := by kernel_rfl
theorem ps83 : F83.ps.length = 2 := by kernel_rfl
theorem N83 : F83.N.length = 2 := rfl
theorem c83 (k : Nat) (x0 x1 : D) (S : List Ob) : callN pg (k + 1) 83 [x0, x1] S = endRc (b83 (callN pg k) ⟨[some (.d x0), some (.d x1)], S⟩) := by
  show runF pg (callN pg k) F83 [x0, x1] S = _
  unfold runF; rw [body83, ps83, N83]; rfl
/-- _law_four -/
def b84 (call : Calls) : St' := (sSeq (sAsg (gNm 2 .own) (cTup (aCons (cCall call 66 (aCons (cOp2 fIx (.var 0) (.val (cC (.int (0))))) (aCons (cOp2 fIx (.var 1) (.val (cC (.int (0))))) aNil))) (aCons (cCall call 66 (aCons (cOp2 fIx (.var 0) (.val (cC (.int (1))))) (aCons (cOp2 fIx (.var 1) (.val (cC (.int (1))))) aNil))) aNil)))) (sSeq (sAsg (gNm 3 .own) (cTup (aCons (cCall call 67 (aCons (cOp2 fIx (.var 0) (.val (cC (.int (0))))) (aCons (cOp2 fIx (.var 1) (.val (cC (.int (1))))) aNil))) (aCons (cCall call 67 (aCons (cOp2 fIx (.var 0) (.val (cC (.int (1))))) (aCons (cOp2 fIx (.var 1) (.val (cC (.int (0))))) aNil))) aNil)))) (sSeq (sAsg (gNm 4 .own) (cTup (aCons (cCall call 71 (aCons (cOp2 fIx (.var 0) (.val (cC (.int (0))))) (aCons (cOp2 fIx (.var 1) (.val (cC (.int (0))))) aNil))) (aCons (cCall call 71 (aCons (cOp2 fIx (.var 0) (.val (cC (.int (1))))) (aCons (cOp2 fIx (.var 1) (.val (cC (.int (1))))) aNil))) aNil)))) (sRet (cTup (aCons (cVar 2) (aCons (cVar 3) (aCons (cVar 4) (aCons (cTup (aCons (cCall call 72 (aCons (cOp2 fIx (.var 0) (.val (cC (.int (0))))) (aCons (cOp2 fIx (.var 1) (.val (cC (.int (0))))) aNil))) (aCons (cCall call 72 (aCons (cOp2 fIx (.var 0) (.val (cC (.int (1))))) (aCons (cOp2 fIx (.var 1) (.val (cC (.int (1))))) aNil))) aNil))) aNil)))))))))
theorem body84 (call : Calls) : denB (den 30) (ctxOf pg call F84) 100 F84.body = b84 call := by kernel_rfl
theorem ps84 : F84.ps.length = 2 := by kernel_rfl
theorem N84 : F84.N.length = 5 := rfl
theorem c84 (k : Nat) (x0 x1 : D) (S : List Ob) : callN pg (k + 1) 84 [x0, x1] S = endRc (b84 (callN pg k) ⟨[some (.d x0), some (.d x1), none, none, none], S⟩) := by
  show runF pg (callN pg k) F84 [x0, x1] S = _
  unfold runF; rw [body84, ps84, N84]; rfl
/-- _law_spans_good -/
def b85 (call : Calls) : St' := (sSeq (sAsg (gTp 4 (gsCons (gNm 4 .own) (gsCons (gNm 5 .own) (gsCons (gNm 6 .own) (gsCons (gNm 7 .own) gsNil))))) (cCall call 84 (aCons (cVar 0) (aCons (cVar 1) aNil)))) (sSeq (sAsg (gNm 8 .own) (cTup (aCons (cCall call 71 (aCons (cOp2 fIx (.var 0) (.val (cC (.int (0))))) (aCons (cOp2 fIx (.var 1) (.val (cC (.int (0))))) aNil))) (aCons (cCall call 72 (aCons (cOp2 fIx (.var 0) (.val (cC (.int (1))))) (aCons (cOp2 fIx (.var 1) (.val (cC (.int (1))))) aNil))) aNil)))) (sSeq (sAsg (gNm 9 .own) (cLst (aCons (cCall call 12 (aCons (cVar 0) (aCons (cVar 1) aNil))) (aCons (cCall call 13 (aCons (cVar 0) (aCons (cVar 1) aNil))) (aCons (cCall call 14 (aCons (cVar 0) (aCons (cVar 1) aNil))) (aCons (cCall call 15 (aCons (cVar 0) (aCons (cVar 1) aNil))) (aCons (cCall call 16 (aCons (cVar 0) (aCons (cVar 1) aNil))) aNil))))))) (sSeq (sAsg (gNm 10 .own) (cLst (aCons (cVar 4) (aCons (cVar 5) (aCons (cCall call 74 (aCons (cVar 0) (aCons (cVar 1) aNil))) (aCons (cVar 6) (aCons (cVar 7) aNil))))))) (sSeq (sAsg (gNm 9 .own) (cOp2 fAdd (.var 9) (.val (cLst (aCons (cCall call 17 (aCons (cVar 0) (aCons (cVar 1) aNil))) (aCons (cCall call 10 (aCons (cVar 3) aNil)) (aCons (cCall call 23 (aCons (cVar 0) (aCons (cVar 2) aNil))) (aCons (cCall call 21 (aCons (cVar 0) aNil)) (aCons (cCall call 22 (aCons (cVar 0) aNil)) (aCons (cCall call 19 (aCons (cVar 0) (aCons (cVar 3) aNil))) aNil)))))))))) (sSeq (sAsg (gNm 10 .own) (cOp2 fAdd (.var 10) (.val (cLst (aCons (cVar 8) (aCons (cTup (aCons (cVar 3) (aCons (cVar 3) aNil))) (aCons (cTup (aCons (cCall call 67 (aCons (cOp2 fIx (.var 0) (.val (cC (.int (0))))) (aCons (cVar 2) aNil))) (aCons (cCall call 66 (aCons (cOp2 fIx (.var 0) (.val (cC (.int (1))))) (aCons (cVar 2) aNil))) aNil))) (aCons (cCall call 75 (aCons (cVar 0) aNil)) aNil)))))))) (sSeq (sAsg (gNm 10 .own) (cOp2 fAdd (.var 10) (.val (cLst (aCons (cCall call 67 (aCons (cOp2 fIx (.var 0) (.val (cC (.int (1))))) (aCons (cOp2 fIx (.var 0) (.val (cC (.int (0))))) aNil))) (aCons (cCall call 83 (aCons (cVar 0) (aCons (cVar 3) aNil))) aNil)))))) (sSeq (sAsg (gNm 9 .own) (cOp2 fAdd (.var 9) (.val (cLst (aCons (cCall call 20 (aCons (cVar 0) (aCons (cVar 1) aNil))) (aCons (cCall call 20 (aCons (cVar 0) (aCons (cVar 8) aNil))) (aCons (cCall call 11 (aCons (cLst (aCons (cVar 3) (aCons (cOp2 fIx (.var 0) (.val (cC (.int (0))))) (aCons (cOp2 fIx (.var 0) (.val (cC (.int (1))))) (aCons (cOp2 fIx (.var 1) (.val (cC (.int (0))))) aNil))))) aNil)) (aCons (cCall call 11 (aCons (cTup (aCons (cVar 3) aNil)) aNil)) aNil)))))))) (sSeq (sAsg (gNm 10 .own) (cOp2 fAdd (.var 10) (.val (cLst (aCons (cAndM [(cCall call 83 (aCons (cVar 1) (aCons (cOp2 fIx (.var 0) (.val (cC (.int (0))))) aNil))), (cCall call 83 (aCons (cVar 1) (aCons (cOp2 fIx (.var 0) (.val (cC (.int (1))))) aNil)))]) (aCons (cC (.bool true)) aNil)))))) (sRet (cCall call 64 (aCons (cVar 9) (aCons (cOp2 fAdd (.var 10) (.val (cLst (aCons (cCall call 80 (aCons (cLst (aCons (cVar 3) (aCons (cOp2 fIx (.var 0) (.val (cC (.int (0))))) (aCons (cOp2 fIx (.var 0) (.val (cC (.int (1))))) (aCons (cOp2 fIx (.var 1) (.val (cC (.int (0))))) aNil))))) aNil)) (aCons (cTup (aCons (cVar 3) (aCons (cVar 3) aNil))) aNil))))) aNil)))))))))))))
theorem body85 (call : Calls) : denB (den 30) (ctxOf pg call F85) 100 F85.body = b85 call := by kernel_rfl
theorem ps85 : F85.ps.length = 4 := by kernel_rfl
theorem N85 : F85.N.length = 11 := rfl
theorem c85 (k : Nat) (x0 x1 x2 x3 : D) (S : List Ob) : callN pg (k + 1) 85 [x0, x1, x2, x3] S = endRc (b85 (callN pg k) ⟨[some (.d x0), some (.d x1), some (.d x2), some (.d x3), none, none, none, none, none, none, none], S⟩) := by
  show runF pg (callN pg k) F85 [x0, x1, x2, x3] S = _
  unfold runF; rw [body85, ps85, N85]; rfl
/-- _law_parts_good -/
def b86 (call : Calls) : St' := (sSeq (sPar2 2 .own 3 .own (cOp2 fAdd (.val (cC (.int (1)))) (.val (cCall call 62 (aCons (cVar 0) (aCons (cC (.int (9))) aNil))))) (cCall call 62 (aCons (cVar 0) (aCons (cC (.int (6))) aNil)))) (sSeq (sPar2 4 .own 5 .own (cCall call 67 (aCons (cOp2 fIx (.var 1) (.val (cC (.int (1))))) (aCons (cOp2 fIx (.var 1) (.val (cC (.int (0))))) aNil))) (cOp2 fIx (.var 1) (.val (cC (.int (0)))))) (sSeq (sFor (iRange1 (cVar 2)) (gNm 6 .own) (sSeq (sAsg (gNm 7 .own) (cCall call 66 (aCons (cOp2 fIx (.var 1) (.val (cC (.int (0))))) (aCons (cCall call 68 (aCons (cVar 4) (aCons (cCall call 65 (aCons (cOp2 fAdd (.var 6) (.val (cC (.int (1))))) (aCons (cVar 2) aNil))) aNil))) aNil)))) (sSeq (sIf (tNotM (tTru (.val (cCall call 64 (aCons (cCall call 24 (aCons (cVar 1) (aCons (cVar 2) (aCons (cVar 6) aNil)))) (aCons (cTup (aCons (cVar 5) (aCons (cVar 7) aNil))) aNil)))))) (sRet (cC (.bool false))) sNil) (sAsg (gNm 5 .own) (cVar 7))))) (sRet (cAndM [(cOp2 fEq (.var 5) (.val (cOp2 fIx (.var 1) (.val (cC (.int (1))))))), (cCall call 64 (aCons (cCall call 18 (aCons (cVar 1) (aCons (cVar 3) aNil))) (aCons (cCall call 82 (aCons (cVar 1) (aCons (cVar 3) aNil))) aNil)))])))))
theorem body86 (call : Calls) : denB (den 30) (ctxOf pg call F86) 100 F86.body = b86 call := by kernel_rfl
theorem ps86 : F86.ps.length = 2 := by kernel_rfl
theorem N86 : F86.N.length = 8 := rfl
theorem c86 (k : Nat) (x0 x1 : D) (S : List Ob) : callN pg (k + 1) 86 [x0, x1] S = endRc (b86 (callN pg k) ⟨[some (.d x0), some (.d x1), none, none, none, none, none, none], S⟩) := by
  show runF pg (callN pg k) F86 [x0, x1] S = _
  unfold runF; rw [body86, ps86, N86]; rfl
/-- _law_picked -/
def b87 (call : Calls) : St' := (sSeq (sIf (tTru (.val (cCall call 69 (aCons (cOp2 fIx (.var 0) (.val (cC (.int (1))))) (aCons (cOp2 fIx (.var 1) (.val (cC (.int (0))))) aNil))))) (sRetV 2) sNil) (sSeq (sIf (tNotM (tTru (.val (cCall call 69 (aCons (cOp2 fIx (.var 0) (.val (cC (.int (0))))) (aCons (cOp2 fIx (.var 1) (.val (cC (.int (1))))) aNil)))))) (sRetV 3) sNil) (sRet (cCall call 80 (aCons (cLst (aCons (cOp2 fIx (.var 2) (.val (cC (.int (0))))) (aCons (cOp2 fIx (.var 2) (.val (cC (.int (1))))) (aCons (cOp2 fIx (.var 3) (.val (cC (.int (0))))) (aCons (cOp2 fIx (.var 3) (.val (cC (.int (1))))) aNil))))) aNil)))))
theorem body87 (call : Calls) : denB (den 30) (ctxOf pg call F87) 100 F87.body = b87 call := by kernel_rfl
theorem ps87 : F87.ps.length = 4 := by kernel_rfl
theorem N87 : F87.N.length = 4 := rfl
theorem c87 (k : Nat) (x0 x1 x2 x3 : D) (S : List Ob) : callN pg (k + 1) 87 [x0, x1, x2, x3] S = endRc (b87 (callN pg k) ⟨[some (.d x0), some (.d x1), some (.d x2), some (.d x3)], S⟩) := by
  show runF pg (callN pg k) F87 [x0, x1, x2, x3] S = _
  unfold runF; rw [body87, ps87, N87]; rfl
/-- _law_terms_good -/
def b88 (call : Calls) : St' := (sSeq (sAsg (gTp 4 (gsCons (gNm 4 .own) (gsCons (gNm 5 .own) (gsCons (gNm 6 .own) (gsCons (gNm 7 .own) gsNil))))) (cTup (aCons (cCall call 31 (aCons (cC (.int (0))) aNil)) (aCons (cCall call 31 (aCons (cC (.int (1))) aNil)) (aCons (cCall call 32 (aCons (cC (.int (0))) aNil)) (aCons (cCall call 29 (aCons (cTup (aCons (cC (.int (1))) (aCons (cC (.int (2))) aNil))) aNil)) aNil)))))) (sSeq (sAsg (gTp 2 (gsCons (gNm 8 .own) (gsCons (gNm 9 .own) gsNil))) (cTup (aCons (cTup (aCons (cVar 1) (aCons (cVar 2) aNil))) (aCons (cTup (aCons (cVar 3) aNil)) aNil)))) (sSeq (sAsg (gNm 10 .own) (cLst (aCons (cCall call 34 (aCons (cVar 4) (aCons (cVar 5) aNil))) (aCons (cCall call 36 (aCons (cVar 4) (aCons (cVar 6) aNil))) (aCons (cCall call 38 (aCons (cVar 4) (aCons (cVar 5) aNil))) (aCons (cCall call 38 (aCons (cVar 4) (aCons (cCall call 38 (aCons (cVar 4) (aCons (cVar 4) aNil))) aNil))) (aCons (cCall call 38 (aCons (cVar 6) (aCons (cVar 6) aNil))) aNil))))))) (sSeq (sPar2 11 .own 12 .own (cOp2 fIx (.val (cCall call 84 (aCons (cVar 1) (aCons (cVar 2) aNil)))) (.val (cC (.int (0))))) (cOp2 fIx (.val (cCall call 84 (aCons (cVar 1) (aCons (cVar 3) aNil)))) (.val (cC (.int (1)))))) (sSeq (sAsg (gNm 13 .own) (cLst (aCons (cVar 11) (aCons (cVar 12) (aCons (cCall call 74 (aCons (cVar 1) (aCons (cVar 2) aNil))) (aCons (cCall call 82 (aCons (cVar 1) (aCons (cC (.int (3))) aNil))) (aCons (cCall call 82 (aCons (cVar 3) (aCons (cC (.int (2))) aNil))) aNil))))))) (sSeq (sAsg (gNm 10 .own) (cOp2 fAdd (.var 10) (.val (cLst (aCons (cCall call 41 (aCons (cVar 4) (aCons (cVar 6) aNil))) (aCons (cCall call 42 (aCons (cVar 5) (aCons (cVar 6) aNil))) (aCons (cCall call 39 (aCons (cCall call 36 (aCons (cVar 4) (aCons (cVar 7) aNil))) (aCons (cVar 5) (aCons (cVar 6) aNil)))) (aCons (cCall call 34 (aCons (cVar 7) (aCons (cVar 7) aNil))) aNil)))))))) (sSeq (sAsg (gNm 14 .own) (cCall call 87 (aCons (cTup (aCons (cCall call 67 (aCons (cOp2 fIx (.var 1) (.val (cC (.int (0))))) (aCons (cTup (aCons (cC (.int (1))) (aCons (cC (.int (2))) aNil))) aNil))) (aCons (cCall call 67 (aCons (cOp2 fIx (.var 1) (.val (cC (.int (1))))) (aCons (cTup (aCons (cC (.int (1))) (aCons (cC (.int (2))) aNil))) aNil))) aNil))) (aCons (cTup (aCons (cTup (aCons (cC (.int (0))) (aCons (cC (.int (1))) aNil))) (aCons (cTup (aCons (cC (.int (0))) (aCons (cC (.int (1))) aNil))) aNil))) (aCons (cVar 2) (aCons (cVar 3) aNil)))))) (sSeq (sAsg (gNm 13 .own) (cOp2 fAdd (.var 13) (.val (cLst (aCons (cOp2 fIx (.val (cCall call 84 (aCons (cVar 1) (aCons (cVar 3) aNil)))) (.val (cC (.int (2))))) (aCons (cOp2 fIx (.val (cCall call 84 (aCons (cVar 2) (aCons (cVar 3) aNil)))) (.val (cC (.int (3))))) (aCons (cVar 14) (aCons (cTup (aCons (cTup (aCons (cC (.int (1))) (aCons (cC (.int (1))) aNil))) (aCons (cTup (aCons (cC (.int (1))) (aCons (cC (.int (1))) aNil))) aNil))) aNil)))))))) (sSeq (sIf (tNotM (tTru (.val (cCall call 64 (aCons (cLc (iVar 10) (gNm 20 .val) tYesM (cCall call 46 (aCons (cVar 20) (aCons (cVar 8) (aCons (cVar 9) aNil)))) [19, 20]) (aCons (cVar 13) aNil)))))) (sRet (cC (.bool false))) sNil) (sSeq (sAsg (gNm 15 .own) (cLc (iVal (cCut (.var 10) none (some (cC (.int (2)))))) (gNm 20 .val) tYesM (cCall call 53 (aCons (cVar 20) (aCons (cVar 8) (aCons (cVar 9) aNil)))) [19, 20])) (sSeq (sIf (tNotM (tTru (.val (cCall call 64 (aCons (cVar 15) (aCons (cCut (.var 13) none (some (cC (.int (2))))) aNil)))))) (sRet (cC (.bool false))) sNil) (sSeq (sFor (iRange1 (cC (.int (3)))) (gNm 16 .own) (sSeq (sAsg (gTp 2 (gsCons (gNm 17 .own) (gsCons (gNm 18 .own) gsNil))) (cTup (aCons (cTup (aCons (cCall call 79 (aCons (cVar 0) (aCons (cVar 1) aNil))) (aCons (cCall call 79 (aCons (cVar 0) (aCons (cVar 2) aNil))) aNil))) (aCons (cTup (aCons (cCall call 79 (aCons (cVar 0) (aCons (cVar 3) aNil))) aNil)) aNil)))) (sIf (tB (cOp2 fNe (.val (cLc (iZipM (cVar 10) (cVar 13)) (gTp 2 (gsCons (gNm 20 .val) (gsCons (gNm 21 .val) gsNil))) (tNotM (tTru (.val (cCall call 83 (aCons (cVar 21) (aCons (cCall call 44 (aCons (cVar 20) (aCons (cVar 17) (aCons (cVar 18) aNil)))) aNil)))))) (cC (.int (1))) [19, 20, 21])) (.val (cLst aNil)))) (sRet (cC (.bool false))) sNil))) (sRet (cC (.bool true)))))))))))))))
theorem body88 (call : Calls) : denB (den 30) (ctxOf pg call F88) 100 F88.body = b88 call := by kernel_rfl
theorem ps88 : F88.ps.length = 4 := by kernel_rfl
theorem N88 : F88.N.length = 22 := rfl
theorem c88 (k : Nat) (x0 x1 x2 x3 : D) (S : List Ob) : callN pg (k + 1) 88 [x0, x1, x2, x3] S = endRc (b88 (callN pg k) ⟨[some (.d x0), some (.d x1), some (.d x2), some (.d x3), none, none, none, none, none, none, none, none, none, none, none, none, none, none, none, none, none, none], S⟩) := by
  show runF pg (callN pg k) F88 [x0, x1, x2, x3] S = _
  unfold runF; rw [body88, ps88, N88]; rfl
/-- _law_rows_good -/
def b89 (call : Calls) : St' := (sSeq (sAsg (gNm 4 .own) (cLc (iRange1 (cC (.int (3)))) (gNm 21 .val) tYesM (cCall call 63 (aCons (cVar 0) (aCons (cLst (aCons (cTup (aCons (cC (.int (0))) (aCons (cC (.int (1))) aNil))) (aCons (cTup (aCons (cC (.int (1))) (aCons (cC (.int (8))) aNil))) (aCons (cTup (aCons (cC (.int (1))) (aCons (cC (.int (100))) aNil))) (aCons (cTup (aCons (cC (.int (3))) (aCons (cC (.int (1))) aNil))) aNil))))) aNil))) [20, 21])) (sSeq (sPar3 5 .own 6 .own 7 .own (cTup (aCons (cC (.int (3))) (aCons (cOp2 fIx (.var 1) (.val (cC (.int (0))))) (aCons (cOp2 fIx (.var 1) (.val (cC (.int (1))))) (aCons (cOp2 fIx (.var 4) (.val (cC (.int (0))))) aNil))))) (cTup (aCons (cC (.int (3))) (aCons (cOp2 fIx (.var 2) (.val (cC (.int (0))))) (aCons (cOp2 fIx (.var 2) (.val (cC (.int (1))))) (aCons (cOp2 fIx (.var 4) (.val (cC (.int (1))))) aNil))))) (cTup (aCons (cC (.int (3))) (aCons (cOp2 fIx (.var 3) (.val (cC (.int (0))))) (aCons (cOp2 fIx (.var 3) (.val (cC (.int (1))))) (aCons (cOp2 fIx (.var 4) (.val (cC (.int (2))))) aNil)))))) (sSeq (sPar2 8 .own 9 .own (cCall call 62 (aCons (cVar 0) (aCons (cC (.int (5))) aNil))) (cCall call 66 (aCons (cOp2 fIx (.var 4) (.val (cC (.int (0))))) (aCons (cOp2 fIx (.var 4) (.val (cC (.int (1))))) aNil)))) (sSeq (sAsg (gNm 10 .own) (cLst (aCons (cCall call 56 (aCons (cC (.str ("add" : Str))) (aCons (cVar 5) (aCons (cVar 6) aNil)))) (aCons (cCall call 56 (aCons (cC (.str ("sub" : Str))) (aCons (cVar 5) (aCons (cVar 6) aNil)))) (aCons (cCall call 58 (aCons (cC (.str ("least" : Str))) (aCons (cVar 5) (aCons (cVar 6) aNil)))) (aCons (cCall call 58 (aCons (cC (.str ("most" : Str))) (aCons (cVar 5) (aCons (cVar 6) aNil)))) (aCons (cCall call 57 (aCons (cVar 5) (aCons (cVar 6) (aCons (cVar 8) aNil)))) aNil))))))) (sSeq (sAsg (gTp 4 (gsCons (gNm 11 .own) (gsCons (gNm 12 .own) (gsCons (gNm 13 .own) (gsCons (gNm 14 .own) gsNil))))) (cCall call 84 (aCons (cVar 1) (aCons (cVar 2) aNil)))) (sSeq (sAsg (gNm 15 .own) (cCall call 72 (aCons (cOp2 fIx (.var 4) (.val (cC (.int (0))))) (aCons (cOp2 fIx (.var 4) (.val (cC (.int (1))))) aNil)))) (sSeq (sAsg (gNm 16 .own) (cCall call 66 (aCons (cCall call 68 (aCons (cCall call 75 (aCons (cVar 1) aNil)) (aCons (cOp2 fIx (.var 4) (.val (cC (.int (1))))) aNil))) (aCons (cCall call 66 (aCons (cCall call 68 (aCons (cCall call 75 (aCons (cVar 2) aNil)) (aCons (cOp2 fIx (.var 4) (.val (cC (.int (0))))) aNil))) (aCons (cCall call 68 (aCons (cOp2 fIx (.var 4) (.val (cC (.int (0))))) (aCons (cOp2 fIx (.var 4) (.val (cC (.int (1))))) aNil))) aNil))) aNil)))) (sSeq (sAsg (gNm 16 .own) (cIf (tB (cOp2 fGt (.var 8) (.val (cC (.int (0)))))) (cCall call 66 (aCons (cVar 16) (aCons (cCall call 73 (aCons (cOp2 fSub (.var 8) (.val (cC (.int (6))))) aNil)) aNil))) (cVar 16))) (sSeq (sAsg (gNm 17 .own) (cLst (aCons (cTup (aCons (cC (.int (3))) (aCons (cOp2 fIx (.var 11) (.val (cC (.int (0))))) (aCons (cOp2 fIx (.var 11) (.val (cC (.int (1))))) (aCons (cVar 9) aNil))))) (aCons (cTup (aCons (cC (.int (3))) (aCons (cOp2 fIx (.var 12) (.val (cC (.int (0))))) (aCons (cOp2 fIx (.var 12) (.val (cC (.int (1))))) (aCons (cVar 9) aNil))))) (aCons (cOp2 fAdd (.val (cOp2 fAdd (.val (cTup (aCons (cC (.int (3))) aNil))) (.var 13))) (.val (cTup (aCons (cVar 15) aNil)))) aNil))))) (sSeq (sAsg (gNm 17 .own) (cOp2 fAdd (.var 17) (.val (cLst (aCons (cOp2 fAdd (.val (cOp2 fAdd (.val (cTup (aCons (cC (.int (3))) aNil))) (.var 14))) (.val (cTup (aCons (cVar 15) aNil)))) (aCons (cOp2 fAdd (.val (cOp2 fAdd (.val (cTup (aCons (cOp2 fSub (.val (cC (.int (6)))) (.var 8)) aNil))) (.val (cCall call 74 (aCons (cVar 1) (aCons (cVar 2) aNil)))))) (.val (cTup (aCons (cVar 16) aNil)))) aNil)))))) (sSeq (sDrop (cMt1 10 fAppend (cCall call 60 (aCons (cVar 5) (aCons (cVar 6) (aCons (cVar 7) (aCons (cVar 5) aNil))))))) (sSeq (sAsg (gTp 3 (gsCons (gNm 18 .own) (gsCons (gNm 19 .own) (gsCons (gNm 16 .own) gsNil)))) (cCall call 76 (aCons (cVar 5) (aCons (cVar 6) (aCons (cVar 7) (aCons (cVar 5) aNil)))))) (sSeq (sDrop (cMt1 17 fAppend (cTup (aCons (cC (.int (3))) (aCons (cVar 18) (aCons (cVar 19) (aCons (cVar 16) aNil))))))) (sRet (cCall call 64 (aCons (cVar 10) (aCons (cVar 17) aNil)))))))))))))))))
theorem body89 (call : Calls) : denB (den 30) (ctxOf pg call F89) 100 F89.body = b89 call := by kernel_rfl
theorem ps89 : F89.ps.length = 4 := by kernel_rfl
theorem N89 : F89.N.length = 22 := rfl
theorem c89 (k : Nat) (x0 x1 x2 x3 : D) (S : List Ob) : callN pg (k + 1) 89 [x0, x1, x2, x3] S = endRc (b89 (callN pg k) ⟨[some (.d x0), some (.d x1), some (.d x2), some (.d x3), none, none, none, none, none, none, none, none, none, none, none, none, none, none, none, none, none, none], S⟩) := by
  show runF pg (callN pg k) F89 [x0, x1, x2, x3] S = _
  unfold runF; rw [body89, ps89, N89]; rfl
/-- law -/
def b90 (call : Calls) : St' := (sSeq (sAsg (gNm 1 .share) (cCall call 61 (aCons (cVar 0) aNil))) (sSeq (sFor (iRange1 (cC (.int (6)))) (gNm 2 .own) (sSeq (sPar3 3 .own 4 .own 5 .own (cCall call 78 (aCons (cVar 1) aNil)) (cCall call 78 (aCons (cVar 1) aNil)) (cCall call 78 (aCons (cVar 1) aNil))) (sSeq (sAsg (gNm 6 .own) (cCall call 63 (aCons (cVar 1) (aCons (cLst (aCons (cCall call 77 (aCons (cVar 1) aNil)) (aCons (cCall call 79 (aCons (cVar 1) (aCons (cVar 3) aNil))) (aCons (cOp2 fIx (.var 3) (.val (cC (.int (0))))) (aCons (cOp2 fIx (.var 3) (.val (cC (.int (1))))) aNil))))) aNil)))) (sSeq (sIf (tNotM (tTru (.val (cCall call 85 (aCons (cVar 3) (aCons (cCall call 63 (aCons (cVar 1) (aCons (cLst (aCons (cVar 4) (aCons (cVar 3) (aCons (cTup (aCons (cOp2 fIx (.var 3) (.val (cC (.int (0))))) (aCons (cOp2 fIx (.var 3) (.val (cC (.int (0))))) aNil))) aNil)))) aNil))) (aCons (cCall call 70 (aCons (cCall call 77 (aCons (cVar 1) aNil)) aNil)) (aCons (cVar 6) aNil)))))))) (sRet (cC (.bool false))) sNil) (sSeq (sIf (tNotM (tTru (.val (cCall call 86 (aCons (cVar 1) (aCons (cVar 3) aNil)))))) (sRet (cC (.bool false))) sNil) (sIf (tOrM [(tNotM (tTru (.val (cCall call 88 (aCons (cVar 1) (aCons (cVar 3) (aCons (cVar 4) (aCons (cVar 5) aNil)))))))), (tNotM (tTru (.val (cCall call 89 (aCons (cVar 1) (aCons (cVar 3) (aCons (cVar 4) (aCons (cVar 5) aNil))))))))]) (sRet (cC (.bool false))) sNil)))))) (sRet (cC (.bool true)))))
theorem body90 (call : Calls) : denB (den 30) (ctxOf pg call F90) 100 F90.body = b90 call := by kernel_rfl
theorem ps90 : F90.ps.length = 1 := by kernel_rfl
theorem N90 : F90.N.length = 7 := rfl
theorem c90 (k : Nat) (x0 : D) (S : List Ob) : callN pg (k + 1) 90 [x0] S = endRc (b90 (callN pg k) ⟨[some (.d x0), none, none, none, none, none, none], S⟩) := by
  show runF pg (callN pg k) F90 [x0] S = _
  unfold runF; rw [body90, ps90, N90]; rfl
end K03

set_option Elab.async false
set_option linter.all false
set_option linter.unusedSimpArgs false
set_option exponentiation.threshold 20000
set_option maxRecDepth 100000
set_option maxHeartbeats 4000000
namespace K03
open PySem PySem.Spec L2 Mi
local macro_rules | `(tactic| walk_at "go") => `(tactic| try simp (disch := (first | omega | (simp only [List.length_cons, List.length_nil] <;> omega))) only [e_sNil, e_sSeq, e_sRet, e_sRetN, e_sBrk, e_sCnt, e_sRetV, e_sIf, e_sDrop, e_sAsg, e_sAsg2, e_sPar2, e_sPar3, e_sFor, fornx_nx, fornx_ct, fornx_bk, fornx_rt, e_forL_nil, e_forL_cons, e_gOwn, e_gVal, e_gShare0, e_gsNil, e_gsCons, e_gTpT, e_gTpL, e_gTpF, e_cC, e_vl, e_cVar, e_firstVar, e_firstVal, e_lateVar, e_lateVal, e_cOp1, e_cOp2, e_aNil, e_aCons, e_aStar, e_cTup, e_cLst, e_cCall, e_cCallV, e_fnOf, e_fnOf_, e_cIf, e_tB, e_tTru, e_cNotM, e_tNotM, e_tru1, e_cAnd1, e_cAnd2, e_cOr1, e_cOr2, e_tAnd1, e_tAnd2, e_tOr1, e_tOr2, e_tYes, e_optN, e_optS, e_cCut, e_cTab, e_iVal, e_iVar, e_seqL, e_seqT, e_iRange1, e_iRange2, e_intO, e_strO, e_iZipM, e_zipL, e_zipT, e_pairs, e_pairs0, e_cLc, e_lcN, e_lcC, e_cLc2, e_loN, e_loC, e_cMt1, e_fFlIf, e_fSIf, e_cMt0, e_gSet, e_sAugS, e_lstAt, e_lstFl, e_lstRef0, e_putAt, putO_fl, putO_ref0, e_endRt, e_endNx, le_lim, lt_lim, e_add, e_addT, e_addL, e_sub, e_mul, e_div, e_mod, e_lt, e_le, e_gt, e_ge, e_abs, e_neg, e_int1, e_addI, e_subI, e_truB, e_truI, e_truL, e_truT, e_itT, e_itL, e_lenT, e_lenL, e_tupT, e_tupL, e_appd, e_eqI, e_neI, e_eqS, e_eqB, e_neB, nthD_0, nthD_s, e_ixT, e_ixL, e_ixT0, e_ixT1, e_ixT2, e_ixT3, e_ixT4, e_ixT5, e_ixT6, e_ixT7, e_ixL0, e_ixL1, e_ixL2, e_ixL3, e_ixL4, e_ixL5, e_ixL6, e_ixL7, e_ixR00, e_ixR01, e_ixR02, e_ixR03, e_map, e_atI0, e_atI1, e_atI2, e_atI3, e_ixN0, e_ixN1, e_ixN2, e_ixN3, cut_from0, cut_from1, cut_from2, cut_from3, cut_to0, cut_to1, cut_to2, cut_to3, e_cutT, e_cutL, hide_d, wipe_n, wipe_c, hideG_d, hideG_o, hideG_n, e_kRet, e_kNx, e_kAsg, e_kAsg2b, e_kAsg2, e_kPar2c, e_kPar2b, e_kPar2a, e_kPar3d, e_kPar3c, e_kPar3b, e_kPar3a, e_kFor, e_kForB, e_kAugC, e_kAugB, e_kRetV, e_kToD, e_kFv, e_kOk, e_kOp1c, e_kOp1, e_kOp2d, e_kOp2c, e_kOp2b, e_kOp2a, e_kConsB, e_kCons, e_kStarC, e_kStarB, e_kStarA, e_kStar, e_kTup, e_kLst, e_kCall, e_kCallVB, e_kCallV, e_kOkB, e_kTruB, e_kTru, e_kNotM, e_kTNot, e_kTru1B, e_kTru1, e_kOptB, e_kOpt, e_kCutD, e_kCutC, e_kCutB, e_kCut, e_kOkD, e_kTabB, e_kTab, e_kOkL, e_kIVal, e_kRg1B, e_kRg1, e_kRg2D, e_kRg2C, e_kRg2B, e_kRg2, e_kZipB, e_kZip, e_kLc, e_kLcA, e_kLc2, e_kLoD, e_kLoC, e_kLoA, e_kMtC, e_kMtB, e_kMtA, e_kMt0, e_kSetD, e_kSetC, e_kSetB, e_kSetA, e_kAsG, e_kAsF, e_kAsE, e_kAsD, e_kAsC, e_kAsB, e_kAsA, e_kAs, e_kGs, e_kIfS1, e_kIfS0, cvG_d, cvG_fl, e_kIfE1, e_kIfE0, e_kTB, e_kAndE1, e_kAndE0, e_kOrE1, e_kOrE0, e_ktAnd1, e_ktAnd0, e_ktOr1, e_ktOr0, ivG_fl, ivG_l, ivG_t, e_kLcC, e_kLcB1, e_kLcB0, RcO_ok, e_kLoB1, e_kLoB0, slotO_0, slotO_s, set_0, set_s, ofO_some, ofOF_some, ofRc_ok, RcB_ok, bind_ok, fl_ok, Fl.seq_nx, Fl.seq_rt, Fl.seq_bk, Fl.seq_ct, toD_d, toD_fl, p1018, p1012, p109, cDivS, cModP, Int.reduceMod, Int.reduceSub, Int.reduceAdd, Int.reduceNeg, Int.reduceLT, Int.reduceLE, Int.reduceEq, Int.reduceMul, Int.reduceDiv, List.length_cons, List.length_nil, Nat.reduceAdd, Nat.reduceLT, Nat.reduceLeDiff, Nat.reduceEqDiff, if_true, if_false, Bool.false_eq_true, reduceIte, reduceCtorEq, Nat.zero_lt_succ, Option.bind_some, Option.map_some, Option.isSome_some, List.cons_append, List.nil_append, decide_true, decide_false, Bool.not_true, Bool.not_false, List.isEmpty_nil, List.isEmpty_cons, Nat.zero_add, List.map_cons, List.map_nil, List.drop_succ_cons, List.drop_zero, List.take_succ_cons, List.take_zero])
/-! KS1: fractions. -/
def fr (q : Rat) : D := .tuple [.int q.num, .int q.den]
theorem gcd_iter {c : M Bool} {w : St'} {st : Nat → Nat → T} (h0 : ∀ a, stepW c w (st a 0) = .inl (.nx (st a 0))) (hs : ∀ a b, stepW c w (st a (b + 1)) = .inr (st (b + 1) (a % (b + 1)))) :
    ∀ k a b, b < 2 ^ k → ∃ n, n ≤ 2 * k + 1 ∧ iterW c w n (st a b) = .inl (.nx (st (Nat.gcd a b) 0))
  | k, a, 0, _ => ⟨1, by omega, by unfold iterW; rw [h0, Nat.gcd_zero_right]⟩
  | 0, a, b + 1, h => by omega
  | k + 1, a, b + 1, h => by
    have e1 : Nat.gcd a (b + 1) = Nat.gcd (b + 1) (a % (b + 1)) := by rw [Nat.gcd_comm a, Nat.gcd_rec (b + 1) a, Nat.gcd_comm]
    have hr : a % (b + 1) < b + 1 := Nat.mod_lt _ (by omega)
    rcases hq : a % (b + 1) with _ | r
    · refine ⟨2, by omega, ?_⟩
      unfold iterW; rw [hs, hq]
      show iterW c w 1 (st (b + 1) 0) = _
      unfold iterW; rw [h0, e1, hq, Nat.gcd_zero_right]
    · have hl : (b + 1) % (r + 1) < 2 ^ k := by
        rw [Nat.pow_succ] at h
        have z := Nat.mod_lt (b + 1) (show 0 < r + 1 by omega)
        by_cases q : 2 * (r + 1) ≤ b + 1
        · omega
        · rw [Nat.mod_eq_sub_mod (by omega), Nat.mod_eq_of_lt (by omega)]; omega
      obtain ⟨n, hn, hi⟩ := gcd_iter h0 hs k (r + 1) ((b + 1) % (r + 1)) hl
      refine ⟨n + 2, by omega, ?_⟩
      unfold iterW; rw [hs, hq]
      show iterW c w (n + 1) (st (b + 1) (r + 1)) = _
      unfold iterW; rw [hs]
      show iterW c w n _ = _
      rw [hi, e1, hq, Nat.gcd_comm (b + 1), Nat.gcd_comm (r + 1), ← Nat.gcd_rec]
theorem gcd_while {c : M Bool} {w : St'} (st : Nat → Nat → T) (h0 : ∀ a, stepW c w (st a 0) = .inl (.nx (st a 0))) (hs : ∀ a b, stepW c w (st a (b + 1)) = .inr (st (b + 1) (a % (b + 1)))) (a b : Nat) (h : b < 2 ^ 10000) : sWhile c w (st a b) = .nx (st (Nat.gcd a b) 0) := by
  obtain ⟨n, hn, hi⟩ := gcd_iter h0 hs 10000 a b h
  exact sWhile_of hi (by omega)
theorem absI (n : Int) : (if n < 0 then -n else n) = (n.natAbs : Int) := by split <;> omega
theorem common_s (k : Nat) (n : Int) (d : Nat) (S) (h : d < 2 ^ 10000) : callN pg (k + 1) 0 [.int n, .int d] S = .ok (.d (.int (Nat.gcd n.natAbs d : Nat))) S := by
  rw [c0]
  unfold b0
  walk_at "go"
  simp only [absI, Int.natAbs_natCast]
  rw [gcd_while (st := fun a b => ⟨[some (.d (.int (a : Nat))), some (.d (.int (b : Nat)))], S⟩) ?_ ?_ n.natAbs d h]
  · walk_at "go"
  · intro a
    unfold stepW
    walk_at "go"
    simp
  · intro a b
    unfold stepW
    walk_at "go"
    have h : (0 : Int) < ((b + 1 : Nat) : Int) := by omega
    have h2 : cModB (a : Int) ((b + 1 : Nat) : Int) = true := by unfold cModB; exact decide_eq_true h
    simp only [h, h2, decide_true, if_true]
    walk_at "go"
    rfl
theorem fr_mk (n : Int) (d : Nat) (h0 : d ≠ 0) : PyData.tuple [.int (n / (Nat.gcd n.natAbs d : Nat)), .int ((d : Int) / (Nat.gcd n.natAbs d : Nat))] = fr (mkRat n d) := by
  unfold fr
  rw [Rat.num_mkRat, Rat.den_mkRat, if_neg h0, if_neg h0, Nat.gcd_comm d, Int.natCast_ediv]
theorem gcd_pos (n : Int) (d : Nat) (h0 : d ≠ 0) : (0 : Int) < (Nat.gcd n.natAbs d : Nat) := by
  have := Nat.gcd_pos_of_pos_right n.natAbs (show 0 < d by omega)
  omega
theorem gcd_div (n a : Int) (d : Nat) (h0 : d ≠ 0) (h : d < 2 ^ 8000) : cDivB a (Nat.gcd n.natAbs d : Nat) = true := by
  have h1 := gcd_pos n d h0
  have h2 : Nat.gcd n.natAbs d ≤ d := Nat.gcd_le_right _ (by omega)
  have h3 := log2_of (Nat.lt_of_le_of_lt h2 h)
  unfold cDivB
  rw [decide_eq_true h1, Int.natAbs_natCast, decide_eq_true (by omega)]
  rfl
theorem lt_10000 {d : Nat} (h : d < 2 ^ 8000) : d < 2 ^ 10000 := Nat.lt_of_lt_of_le h (Nat.pow_le_pow_right (by omega) (by omega))
theorem made_s (k : Nat) (n : Int) (d : Nat) (S) (h0 : d ≠ 0) (h : d < 2 ^ 8000) : callN pg (k + 2) 1 [.int n, .int d] S = .ok (.d (fr (mkRat n d))) S := by
  rw [c1]
  unfold b1
  walk_at "go"
  rw [common_s k n d S (lt_10000 h)]
  walk_at "go"
  have h1 : (0 : Int) < d := by omega
  simp only [h1, decide_true, if_true]
  iterate 3 (walk_at "go"; try simp only [gcd_div _ _ d h0 h, if_true])
  walk_at "go"
  rw [fr_mk n d h0]
theorem lmade_s (k : Nat) (n : Int) (d : Nat) (S) (h0 : d ≠ 0) (h : d < 2 ^ 8000) : callN pg (k + 1) 65 [.int n, .int d] S = .ok (.d (fr (mkRat n d))) S := by
  rw [c65]
  unfold b65
  walk_at "go"
  simp only [absI, Int.natAbs_natCast]
  rw [gcd_while (st := fun a b => ⟨[some (.d (.int n)), some (.d (.int d)), some (.d (.int (a : Nat))), some (.d (.int (b : Nat)))], S⟩) ?_ ?_ n.natAbs d (lt_10000 h)]
  · walk_at "go"
    have h1 : (0 : Int) < d := by omega
    simp only [h1, decide_true, if_true]
    iterate 3 (walk_at "go"; try simp only [gcd_div _ _ d h0 h, if_true])
    walk_at "go"
    rw [fr_mk n d h0]
  · intro a
    unfold stepW
    walk_at "go"
    simp
  · intro a b
    unfold stepW
    walk_at "go"
    have h : (0 : Int) < ((b + 1 : Nat) : Int) := by omega
    have h2 : cModB (a : Int) ((b + 1 : Nat) : Int) = true := by unfold cModB; exact decide_eq_true h
    simp only [h, h2, decide_true, if_true]
    walk_at "go"
    rfl
end K03


set_option Elab.async false
set_option linter.all false
set_option linter.unusedSimpArgs false
set_option exponentiation.threshold 20000
set_option maxRecDepth 100000
set_option maxHeartbeats 4000000
namespace K03
open PySem PySem.Spec L2 Mi
/-! KS2: fractions, one by one. -/
theorem cMul_nn {p q : Rat} {n m : Nat} [h : Bt p n] [k : Bt q m] (z : n + m ≤ 7000) : cMulB p.num q.num = true := by
  unfold cMulB
  have := log2_of h.nm
  have := log2_of k.nm
  exact decide_eq_true (by omega)
theorem cMul_nd {p q : Rat} {n m : Nat} [h : Bt p n] [k : Bt q m] (z : n + m ≤ 7000) : cMulB p.num (q.den : Int) = true := by
  unfold cMulB
  have := log2_of h.nm
  have := log2_of k.dn
  rw [Int.natAbs_natCast]
  exact decide_eq_true (by omega)
theorem cMul_dd {p q : Rat} {n m : Nat} [h : Bt p n] [k : Bt q m] (z : n + m ≤ 7000) : cMulB (p.den : Int) (q.den : Int) = true := by
  unfold cMulB
  have := log2_of h.dn
  have := log2_of k.dn
  rw [Int.natAbs_natCast, Int.natAbs_natCast]
  exact decide_eq_true (by omega)
theorem dd_ne (p q : Rat) : p.den * q.den ≠ 0 := Nat.mul_ne_zero p.den_nz q.den_nz
theorem dd_lt {p q : Rat} {n m : Nat} [h : Bt p n] [k : Bt q m] (z : n + m ≤ 7000) : p.den * q.den < 2 ^ 8000 :=
  Nat.lt_of_lt_of_le (mul_lt h.dn k.dn) (Nat.pow_le_pow_right (by omega) (by omega))
theorem ix_fr0 (S) (q : Rat) : fIx S (fr q) (.int 0) = some (.d (.int q.num)) := rfl
theorem ix_fr1 (S) (q : Rat) : fIx S (fr q) (.int 1) = some (.d (.int q.den)) := rfl
local macro_rules | `(tactic| walk_at "w2") => `(tactic| try simp (disch := (first | omega | (simp only [List.length_cons, List.length_nil] <;> omega))) only [e_sNil, e_sSeq, e_sRet, e_sRetN, e_sBrk, e_sCnt, e_sRetV, e_sIf, e_sDrop, e_sAsg, e_sAsg2, e_sPar2, e_sPar3, e_sFor, fornx_nx, fornx_ct, fornx_bk, fornx_rt, e_forL_nil, e_forL_cons, e_gOwn, e_gVal, e_gShare0, e_gsNil, e_gsCons, e_gTpT, e_gTpL, e_gTpF, e_cC, e_vl, e_cVar, e_firstVar, e_firstVal, e_lateVar, e_lateVal, e_cOp1, e_cOp2, e_aNil, e_aCons, e_aStar, e_cTup, e_cLst, e_cCall, e_cCallV, e_fnOf, e_fnOf_, e_cIf, e_tB, e_tTru, e_cNotM, e_tNotM, e_tru1, e_cAnd1, e_cAnd2, e_cOr1, e_cOr2, e_tAnd1, e_tAnd2, e_tOr1, e_tOr2, e_tYes, e_optN, e_optS, e_cCut, e_cTab, e_iVal, e_iVar, e_seqL, e_seqT, e_iRange1, e_iRange2, e_intO, e_strO, e_iZipM, e_zipL, e_zipT, e_pairs, e_pairs0, e_cLc, e_lcN, e_lcC, e_cLc2, e_loN, e_loC, e_cMt1, e_fFlIf, e_fSIf, e_cMt0, e_gSet, e_sAugS, e_lstAt, e_lstFl, e_lstRef0, e_putAt, putO_fl, putO_ref0, e_endRt, e_endNx, le_lim, lt_lim, e_add, e_addT, e_addL, e_sub, e_mul, e_div, e_mod, e_lt, e_le, e_gt, e_ge, e_abs, e_neg, e_int1, e_addI, e_subI, e_truB, e_truI, e_truL, e_truT, e_itT, e_itL, e_lenT, e_lenL, e_tupT, e_tupL, e_appd, e_eqI, e_neI, e_eqS, e_eqB, e_neB, nthD_0, nthD_s, e_ixT, e_ixL, e_ixT0, e_ixT1, e_ixT2, e_ixT3, e_ixT4, e_ixT5, e_ixT6, e_ixT7, e_ixL0, e_ixL1, e_ixL2, e_ixL3, e_ixL4, e_ixL5, e_ixL6, e_ixL7, e_ixR00, e_ixR01, e_ixR02, e_ixR03, e_map, e_atI0, e_atI1, e_atI2, e_atI3, e_ixN0, e_ixN1, e_ixN2, e_ixN3, cut_from0, cut_from1, cut_from2, cut_from3, cut_to0, cut_to1, cut_to2, cut_to3, e_cutT, e_cutL, hide_d, wipe_n, wipe_c, hideG_d, hideG_o, hideG_n, e_kRet, e_kNx, e_kAsg, e_kAsg2b, e_kAsg2, e_kPar2c, e_kPar2b, e_kPar2a, e_kPar3d, e_kPar3c, e_kPar3b, e_kPar3a, e_kFor, e_kForB, e_kAugC, e_kAugB, e_kRetV, e_kToD, e_kFv, e_kOk, e_kOp1c, e_kOp1, e_kOp2d, e_kOp2c, e_kOp2b, e_kOp2a, e_kConsB, e_kCons, e_kStarC, e_kStarB, e_kStarA, e_kStar, e_kTup, e_kLst, e_kCall, e_kCallVB, e_kCallV, e_kOkB, e_kTruB, e_kTru, e_kNotM, e_kTNot, e_kTru1B, e_kTru1, e_kOptB, e_kOpt, e_kCutD, e_kCutC, e_kCutB, e_kCut, e_kOkD, e_kTabB, e_kTab, e_kOkL, e_kIVal, e_kRg1B, e_kRg1, e_kRg2D, e_kRg2C, e_kRg2B, e_kRg2, e_kZipB, e_kZip, e_kLc, e_kLcA, e_kLc2, e_kLoD, e_kLoC, e_kLoA, e_kMtC, e_kMtB, e_kMtA, e_kMt0, e_kSetD, e_kSetC, e_kSetB, e_kSetA, e_kAsG, e_kAsF, e_kAsE, e_kAsD, e_kAsC, e_kAsB, e_kAsA, e_kAs, e_kGs, e_kIfS1, e_kIfS0, cvG_d, cvG_fl, e_kIfE1, e_kIfE0, e_kTB, e_kAndE1, e_kAndE0, e_kOrE1, e_kOrE0, e_ktAnd1, e_ktAnd0, e_ktOr1, e_ktOr0, ivG_fl, ivG_l, ivG_t, e_kLcC, e_kLcB1, e_kLcB0, RcO_ok, e_kLoB1, e_kLoB0, slotO_0, slotO_s, set_0, set_s, ofO_some, ofOF_some, ofRc_ok, RcB_ok, bind_ok, fl_ok, Fl.seq_nx, Fl.seq_rt, Fl.seq_bk, Fl.seq_ct, toD_d, toD_fl, p1018, p1012, p109, cDivS, cModP, Int.reduceMod, Int.reduceSub, Int.reduceAdd, Int.reduceNeg, Int.reduceLT, Int.reduceLE, Int.reduceEq, Int.reduceMul, Int.reduceDiv, List.length_cons, List.length_nil, Nat.reduceAdd, Nat.reduceLT, Nat.reduceLeDiff, Nat.reduceEqDiff, if_true, if_false, Bool.false_eq_true, reduceIte, reduceCtorEq, Nat.zero_lt_succ, Option.bind_some, Option.map_some, Option.isSome_some, List.cons_append, List.nil_append, decide_true, decide_false, Bool.not_true, Bool.not_false, List.isEmpty_nil, List.isEmpty_cons, Nat.zero_add, List.map_cons, List.map_nil, List.drop_succ_cons, List.drop_zero, List.take_succ_cons, List.take_zero, ix_fr0, ix_fr1, cMul_nn, cMul_nd, cMul_dd])
section
variable {n m : Nat} (k : Nat) (p q : Rat) [Bt p n] [Bt q m] (S : List Ob)
theorem plus_s (h : n + m ≤ 7000) : callN pg (k + 3) 2 [fr p, fr q] S = .ok (.d (fr (p + q))) S := by
  rw [c2]; unfold b2
  walk_at "w2"
  rw [← Int.natCast_mul, made_s k _ _ S (dd_ne p q) (dd_lt h), add_mk]
  walk_at "w2"
theorem minus_s (h : n + m ≤ 7000) : callN pg (k + 3) 3 [fr p, fr q] S = .ok (.d (fr (p - q))) S := by
  rw [c3]; unfold b3
  walk_at "w2"
  rw [← Int.natCast_mul, made_s k _ _ S (dd_ne p q) (dd_lt h), sub_mk]
  walk_at "w2"
theorem times_s (h : n + m ≤ 7000) : callN pg (k + 3) 4 [fr p, fr q] S = .ok (.d (fr (p * q))) S := by
  rw [c4]; unfold b4
  walk_at "w2"
  rw [← Int.natCast_mul, made_s k _ _ S (dd_ne p q) (dd_lt h), mul_mk]
  walk_at "w2"
theorem ladd_s (h : n + m ≤ 7000) : callN pg (k + 2) 66 [fr p, fr q] S = .ok (.d (fr (p + q))) S := by
  rw [c66]; unfold b66
  walk_at "w2"
  rw [← Int.natCast_mul, lmade_s k _ _ S (dd_ne p q) (dd_lt h), add_mk]
  walk_at "w2"
theorem lsub_s (h : n + m ≤ 7000) : callN pg (k + 2) 67 [fr p, fr q] S = .ok (.d (fr (p - q))) S := by
  rw [c67]; unfold b67
  walk_at "w2"
  rw [← Int.natCast_mul, lmade_s k _ _ S (dd_ne p q) (dd_lt h), sub_mk]
  walk_at "w2"
theorem lmul_s (h : n + m ≤ 7000) : callN pg (k + 2) 68 [fr p, fr q] S = .ok (.d (fr (p * q))) S := by
  rw [c68]; unfold b68
  walk_at "w2"
  rw [← Int.natCast_mul, lmade_s k _ _ S (dd_ne p q) (dd_lt h), mul_mk]
  walk_at "w2"
theorem less_s (h : n + m ≤ 7000) : callN pg (k + 1) 6 [fr p, fr q] S = .ok (.d (.bool (decide (p < q)))) S := by
  rw [c6]; unfold b6
  walk_at "w2"
  simp only [lt_num]
theorem lless_s (h : n + m ≤ 7000) : callN pg (k + 1) 69 [fr p, fr q] S = .ok (.d (.bool (decide (p < q)))) S := by
  rw [c69]; unfold b69
  walk_at "w2"
  simp only [lt_num]
omit [Bt p n] in
theorem size_s : callN pg (k + 1) 5 [fr p] S = .ok (.d (fr (rabs p))) S := by
  rw [c5]; unfold b5
  walk_at "w2"
  rw [absI]
  unfold fr
  rw [rabs_num, rabs_den]
omit [Bt p n] in
theorem labs_s : callN pg (k + 1) 70 [fr p] S = .ok (.d (fr (rabs p))) S := by
  rw [c70]; unfold b70
  walk_at "w2"
  rw [absI]
  unfold fr
  rw [rabs_num, rabs_den]
theorem ite_fr (c : Prop) [Decidable c] (a b : Rat) : (if c then fr a else fr b) = fr (if c then a else b) := by split <;> rfl
theorem lesser_s (h : n + m ≤ 7000) : callN pg (k + 2) 7 [fr p, fr q] S = .ok (.d (fr (rmin p q))) S := by
  rw [c7]; unfold b7
  walk_at "w2"
  rw [less_s k q p S (by omega)]
  walk_at "w2"
  unfold rmin
  by_cases z : q < p <;> simp only [z, decide_true, decide_false, if_true, if_false, Bool.false_eq_true] <;> walk_at "w2"
theorem greater_s (h : n + m ≤ 7000) : callN pg (k + 2) 8 [fr p, fr q] S = .ok (.d (fr (rmax p q))) S := by
  rw [c8]; unfold b8
  walk_at "w2"
  rw [less_s k p q S h]
  walk_at "w2"
  unfold rmax
  by_cases z : p < q <;> simp only [z, decide_true, decide_false, if_true, if_false, Bool.false_eq_true] <;> walk_at "w2"
theorem llesser_s (h : n + m ≤ 7000) : callN pg (k + 2) 71 [fr p, fr q] S = .ok (.d (fr (rmin p q))) S := by
  rw [c71]; unfold b71
  walk_at "w2"
  rw [lless_s k p q S h, ← rmin_law]
  walk_at "w2"
  by_cases z : p < q <;> simp only [z, decide_true, decide_false, if_true, if_false, Bool.false_eq_true] <;> walk_at "w2"
theorem lgreater_s (h : n + m ≤ 7000) : callN pg (k + 2) 72 [fr p, fr q] S = .ok (.d (fr (rmax p q))) S := by
  rw [c72]; unfold b72
  walk_at "w2"
  rw [lless_s k p q S h]
  walk_at "w2"
  unfold rmax
  by_cases z : p < q <;> simp only [z, decide_true, decide_false, if_true, if_false, Bool.false_eq_true] <;> walk_at "w2"
end
end K03


set_option Elab.async false
set_option linter.all false
set_option linter.unusedSimpArgs false
set_option exponentiation.threshold 20000
set_option maxRecDepth 100000
set_option maxHeartbeats 4000000
namespace K03
open PySem PySem.Spec L2 Mi
/-! KS3: intervals. -/
theorem fr0 : PyData.tuple [.int 0, .int 1] = fr 0 := rfl
theorem fr1 : PyData.tuple [.int 1, .int 1] = fr 1 := rfl
theorem frm1 : PyData.tuple [.int (-1), .int 1] = fr (-1) := rfl
instance : Bt (-1) 1 := ⟨by decide, by decide⟩
section
variable {a b c d : Rat} {n m l : Nat}
instance instBtMlo {na nb nc nd : Nat} [Bt a na] [Bt b nb] [Bt c nc] [Bt d nd] : Bt (mlo a b c d) (max (max (max (na + nc) (na + nd)) (nb + nc)) (nb + nd)) := by unfold mlo; infer_instance
instance instBtMhi {na nb nc nd : Nat} [Bt a na] [Bt b nb] [Bt c nc] [Bt d nd] : Bt (mhi a b c d) (max (max (max (na + nc) (na + nd)) (nb + nc)) (nb + nd)) := by unfold mhi; infer_instance
end
local macro_rules | `(tactic| walk_at "w3") => `(tactic| try simp (disch := (first | omega | (simp only [List.length_cons, List.length_nil] <;> omega))) only [e_sNil, e_sSeq, e_sRet, e_sRetN, e_sBrk, e_sCnt, e_sRetV, e_sIf, e_sDrop, e_sAsg, e_sAsg2, e_sPar2, e_sPar3, e_sFor, fornx_nx, fornx_ct, fornx_bk, fornx_rt, e_forL_nil, e_forL_cons, e_gOwn, e_gVal, e_gShare0, e_gsNil, e_gsCons, e_gTpT, e_gTpL, e_gTpF, e_cC, e_vl, e_cVar, e_firstVar, e_firstVal, e_lateVar, e_lateVal, e_cOp1, e_cOp2, e_aNil, e_aCons, e_aStar, e_cTup, e_cLst, e_cCall, e_cCallV, e_fnOf, e_fnOf_, e_cIf, e_tB, e_tTru, e_cNotM, e_tNotM, e_tru1, e_cAnd1, e_cAnd2, e_cOr1, e_cOr2, e_tAnd1, e_tAnd2, e_tOr1, e_tOr2, e_tYes, e_optN, e_optS, e_cCut, e_cTab, e_iVal, e_iVar, e_seqL, e_seqT, e_iRange1, e_iRange2, e_intO, e_strO, e_iZipM, e_zipL, e_zipT, e_pairs, e_pairs0, e_cLc, e_lcN, e_lcC, e_cLc2, e_loN, e_loC, e_cMt1, e_fFlIf, e_fSIf, e_cMt0, e_gSet, e_sAugS, e_lstAt, e_lstFl, e_lstRef0, e_putAt, putO_fl, putO_ref0, e_endRt, e_endNx, le_lim, lt_lim, e_add, e_addT, e_addL, e_sub, e_mul, e_div, e_mod, e_lt, e_le, e_gt, e_ge, e_abs, e_neg, e_int1, e_addI, e_subI, e_truB, e_truI, e_truL, e_truT, e_itT, e_itL, e_lenT, e_lenL, e_tupT, e_tupL, e_appd, e_eqI, e_neI, e_eqS, e_eqB, e_neB, nthD_0, nthD_s, e_ixT, e_ixL, e_ixT0, e_ixT1, e_ixT2, e_ixT3, e_ixT4, e_ixT5, e_ixT6, e_ixT7, e_ixL0, e_ixL1, e_ixL2, e_ixL3, e_ixL4, e_ixL5, e_ixL6, e_ixL7, e_ixR00, e_ixR01, e_ixR02, e_ixR03, e_map, e_atI0, e_atI1, e_atI2, e_atI3, e_ixN0, e_ixN1, e_ixN2, e_ixN3, cut_from0, cut_from1, cut_from2, cut_from3, cut_to0, cut_to1, cut_to2, cut_to3, e_cutT, e_cutL, hide_d, wipe_n, wipe_c, hideG_d, hideG_o, hideG_n, e_kRet, e_kNx, e_kAsg, e_kAsg2b, e_kAsg2, e_kPar2c, e_kPar2b, e_kPar2a, e_kPar3d, e_kPar3c, e_kPar3b, e_kPar3a, e_kFor, e_kForB, e_kAugC, e_kAugB, e_kRetV, e_kToD, e_kFv, e_kOk, e_kOp1c, e_kOp1, e_kOp2d, e_kOp2c, e_kOp2b, e_kOp2a, e_kConsB, e_kCons, e_kStarC, e_kStarB, e_kStarA, e_kStar, e_kTup, e_kLst, e_kCall, e_kCallVB, e_kCallV, e_kOkB, e_kTruB, e_kTru, e_kNotM, e_kTNot, e_kTru1B, e_kTru1, e_kOptB, e_kOpt, e_kCutD, e_kCutC, e_kCutB, e_kCut, e_kOkD, e_kTabB, e_kTab, e_kOkL, e_kIVal, e_kRg1B, e_kRg1, e_kRg2D, e_kRg2C, e_kRg2B, e_kRg2, e_kZipB, e_kZip, e_kLc, e_kLcA, e_kLc2, e_kLoD, e_kLoC, e_kLoA, e_kMtC, e_kMtB, e_kMtA, e_kMt0, e_kSetD, e_kSetC, e_kSetB, e_kSetA, e_kAsG, e_kAsF, e_kAsE, e_kAsD, e_kAsC, e_kAsB, e_kAsA, e_kAs, e_kGs, e_kIfS1, e_kIfS0, cvG_d, cvG_fl, e_kIfE1, e_kIfE0, e_kTB, e_kAndE1, e_kAndE0, e_kOrE1, e_kOrE0, e_ktAnd1, e_ktAnd0, e_ktOr1, e_ktOr0, ivG_fl, ivG_l, ivG_t, e_kLcC, e_kLcB1, e_kLcB0, RcO_ok, e_kLoB1, e_kLoB0, slotO_0, slotO_s, set_0, set_s, ofO_some, ofOF_some, ofRc_ok, RcB_ok, bind_ok, fl_ok, Fl.seq_nx, Fl.seq_rt, Fl.seq_bk, Fl.seq_ct, toD_d, toD_fl, p1018, p1012, p109, cDivS, cModP, Int.reduceMod, Int.reduceSub, Int.reduceAdd, Int.reduceNeg, Int.reduceLT, Int.reduceLE, Int.reduceEq, Int.reduceMul, Int.reduceDiv, List.length_cons, List.length_nil, Nat.reduceAdd, Nat.reduceLT, Nat.reduceLeDiff, Nat.reduceEqDiff, if_true, if_false, Bool.false_eq_true, reduceIte, reduceCtorEq, Nat.zero_lt_succ, Option.bind_some, Option.map_some, Option.isSome_some, List.cons_append, List.nil_append, decide_true, decide_false, Bool.not_true, Bool.not_false, List.isEmpty_nil, List.isEmpty_cons, Nat.zero_add, List.map_cons, List.map_nil, List.drop_succ_cons, List.drop_zero, List.take_succ_cons, List.take_zero, ix_fr0, ix_fr1, fr0, fr1, frm1, plus_s, minus_s, times_s, ladd_s, lsub_s, lmul_s, less_s, lless_s, size_s, labs_s, lesser_s, greater_s, llesser_s, lgreater_s])
section
variable (k : Nat) (a b c d : Rat) {na nb nc nd : Nat} [Bt a na] [Bt b nb] [Bt c nc] [Bt d nd] (S : List Ob)
omit [Bt a na] in
theorem point_s : callN pg (k + 1) 10 [fr a] S = .ok (.d (.tuple [fr a, fr a])) S := by
  rw [c10]; unfold b10
  walk_at "w3"
theorem span1_s : callN pg (k + 3) 11 [.tuple [fr a]] S = .ok (.d (.tuple [fr a, fr a])) S := by
  rw [c11]; unfold b11
  walk_at "w3"
theorem span4_s (h : na + nb + nc + nd ≤ 3000) : callN pg (k + 3) 11 [.list [fr a, fr b, fr c, fr d]] S = .ok (.d (.tuple [fr (rmin (rmin (rmin a b) c) d), fr (rmax (rmax (rmax a b) c) d)])) S := by
  rw [c11]; unfold b11
  walk_at "w3"
theorem plus_span_s (h : na + nb + nc + nd ≤ 3000) : callN pg (k + 4) 12 [.tuple [fr a, fr b], .tuple [fr c, fr d]] S = .ok (.d (.tuple [fr (a + c), fr (b + d)])) S := by
  rw [c12]; unfold b12
  walk_at "w3"
theorem minus_span_s (h : na + nb + nc + nd ≤ 3000) : callN pg (k + 4) 13 [.tuple [fr a, fr b], .tuple [fr c, fr d]] S = .ok (.d (.tuple [fr (a - d), fr (b - c)])) S := by
  rw [c13]; unfold b13
  walk_at "w3"
theorem times_span_s (h : na + nb + nc + nd ≤ 1000) : callN pg (k + 4) 14 [.tuple [fr a, fr b], .tuple [fr c, fr d]] S = .ok (.d (.tuple [fr (mlo a b c d), fr (mhi a b c d)])) S := by
  rw [c14]; unfold b14 mlo mhi
  walk_at "w3"
  rw [span4_s k]
  · walk_at "w3"
  · omega
theorem least_span_s (h : na + nb + nc + nd ≤ 3000) : callN pg (k + 3) 15 [.tuple [fr a, fr b], .tuple [fr c, fr d]] S = .ok (.d (.tuple [fr (rmin a c), fr (rmin b d)])) S := by
  rw [c15]; unfold b15
  walk_at "w3"
theorem most_span_s (h : na + nb + nc + nd ≤ 3000) : callN pg (k + 3) 16 [.tuple [fr a, fr b], .tuple [fr c, fr d]] S = .ok (.d (.tuple [fr (rmax a c), fr (rmax b d)])) S := by
  rw [c16]; unfold b16
  walk_at "w3"
theorem joined_span_s (h : na + nb + nc + nd ≤ 3000) : callN pg (k + 3) 17 [.tuple [fr a, fr b], .tuple [fr c, fr d]] S = .ok (.d (.tuple [fr (rmin a c), fr (rmax b d)])) S := by
  rw [c17]; unfold b17
  walk_at "w3"
def inB (a b x : Rat) : Bool := !decide (x < a) && !decide (b < x)
theorem holds_s (h : na + nb + nc ≤ 3000) : callN pg (k + 2) 19 [.tuple [fr a, fr b], fr c] S = .ok (.d (.bool (inB a b c))) S := by
  rw [c19]; unfold b19 inB
  walk_at "w3"
  by_cases z : c < a <;> simp only [z, decide_true, decide_false, Bool.not_true, Bool.not_false, Bool.true_and, Bool.false_and] <;> walk_at "w3"
theorem inside_s (h : na + nb + nc + nd ≤ 3000) : callN pg (k + 3) 20 [.tuple [fr a, fr b], .tuple [fr c, fr d]] S = .ok (.d (.bool (inB c d a && inB c d b))) S := by
  rw [c20]; unfold b20
  walk_at "w3"
  rw [holds_s k c d a S (by omega)]
  walk_at "w3"
  cases z : inB c d a
  · walk_at "w3"
    simp only [Bool.false_and]
  · walk_at "w3"
    rw [holds_s k c d b S (by omega)]
    walk_at "w3"
    simp only [Bool.true_and]
theorem far_s (h : na + nb ≤ 3000) : callN pg (k + 3) 21 [.tuple [fr a, fr b]] S = .ok (.d (fr (rmax (rabs a) (rabs b)))) S := by
  rw [c21]; unfold b21
  walk_at "w3"
theorem wide_s (h : na + nb ≤ 3000) : callN pg (k + 4) 22 [.tuple [fr a, fr b]] S = .ok (.d (fr (b - a))) S := by
  rw [c22]; unfold b22
  walk_at "w3"
theorem wider_s (h : na + nb + nc ≤ 3000) : callN pg (k + 4) 23 [.tuple [fr a, fr b], fr c] S = .ok (.d (.tuple [fr (a - c), fr (b + c)])) S := by
  rw [c23]; unfold b23
  walk_at "w3"
theorem span_of_s (x e : D) (y z : D) : callN pg (k + 1) 55 [.tuple [x, y, z, e]] S = .ok (.d (.tuple [y, z])) S := by
  rw [c55]; unfold b55
  walk_at "w3"
theorem apart_s (x y e f : D) (h : na + nb + nc + nd ≤ 1000) : callN pg (k + 4) 59 [.tuple [x, fr a, fr b, e], .tuple [y, fr c, fr d, f]] S = .ok (.d (fr (rmax 0 (rmax (b - c) (d - a))))) S := by
  rw [c59]; unfold b59
  walk_at "w3"
theorem lholds_s (h : na + nb + nc ≤ 3000) : callN pg (k + 2) 83 [.tuple [fr a, fr b], fr c] S = .ok (.d (.bool (inB a b c))) S := by
  rw [c83]; unfold b83 inB
  walk_at "w3"
  by_cases z : c < a <;> simp only [z, decide_true, decide_false, Bool.not_true, Bool.not_false, Bool.true_and, Bool.false_and] <;> walk_at "w3"
theorem lspan_mul_s (h : na + nb + nc + nd ≤ 1000) : callN pg (k + 3) 74 [.tuple [fr a, fr b], .tuple [fr c, fr d]] S = .ok (.d (.tuple [fr (mlo a b c d), fr (mhi a b c d)])) S := by
  rw [c74]; unfold b74 mlo mhi
  walk_at "w3"
  simp only [rmin_self, rmax_self]
theorem lfar_s (h : na + nb ≤ 3000) : callN pg (k + 3) 75 [.tuple [fr a, fr b]] S = .ok (.d (fr (rmax (rabs a) (rabs b)))) S := by
  rw [c75]; unfold b75
  walk_at "w3"
theorem least_of4_s (h : na + nb + nc + nd ≤ 1000) : callN pg (k + 3) 80 [.list [fr a, fr b, fr c, fr d]] S = .ok (.d (.tuple [fr (rmin (rmin (rmin a b) c) d), fr (rmax (rmax (rmax a b) c) d)])) S := by
  rw [c80]; unfold b80
  walk_at "w3"
  simp only [rmin_self, rmax_self]
theorem least_of2_s (h : na + nb ≤ 1000) : callN pg (k + 3) 80 [.list [fr a, fr b]] S = .ok (.d (.tuple [fr (rmin a b), fr (rmax a b)])) S := by
  rw [c80]; unfold b80
  walk_at "w3"
  simp only [rmin_self, rmax_self]
theorem least_of3_s (h : na + nb + nc ≤ 1000) : callN pg (k + 3) 80 [.list [fr a, fr b, fr c]] S = .ok (.d (.tuple [fr (rmin (rmin a b) c), fr (rmax (rmax a b) c)])) S := by
  rw [c80]; unfold b80
  walk_at "w3"
  simp only [rmin_self, rmax_self]
theorem lfour_s (h : na + nb + nc + nd ≤ 1000) : callN pg (k + 3) 84 [.tuple [fr a, fr b], .tuple [fr c, fr d]] S = .ok (.d (.tuple [.tuple [fr (a + c), fr (b + d)], .tuple [fr (a - d), fr (b - c)], .tuple [fr (rmin a c), fr (rmin b d)], .tuple [fr (rmax a c), fr (rmax b d)]])) S := by
  rw [c84]; unfold b84
  walk_at "w3"
end
end K03


set_option Elab.async false
set_option linter.all false
set_option linter.unusedSimpArgs false
set_option exponentiation.threshold 20000
set_option maxRecDepth 100000
set_option maxHeartbeats 4000000
namespace K03
open PySem PySem.Spec L2 Mi
/-! KS4: powers, parts, rows. -/
theorem e_eqF (S) (p q : Rat) : fEq S (fr p) (fr q) = some (.d (.bool (decide (p = q)))) := by
  have e : PyData.eqv (fr p) (fr q) = decide (p = q) := by
    show ((p.num == q.num) && (((p.den : Int) == (q.den : Int)) && true)) = _
    rw [Bool.and_true, Bool.eq_iff_iff]
    simp only [Bool.and_eq_true, beq_iff_eq, decide_eq_true_eq]
    constructor
    · intro ⟨h1, h2⟩; exact Rat.ext h1 (by omega)
    · rintro rfl; exact ⟨rfl, rfl⟩
  unfold fEq
  rw [if_pos (by rfl), e]
theorem e_neF (S) (p q : Rat) : fNe S (fr p) (fr q) = some (.d (.bool (!decide (p = q)))) := by
  have e := e_eqF S p q
  unfold fEq at e
  unfold fNe
  rw [if_pos (by rfl)] at e ⊢
  have e1 : PyData.eqv (fr p) (fr q) = decide (p = q) := by simpa using e
  rw [e1]
def rowN (n : Nat) : List D := (List.range n).map fun (i : Nat) => .int ((i : Nat) : Int)
theorem row0 : rowI 0 (Int.toNat 0) = [] := rfl
theorem row1 : rowI 0 (Int.toNat 1) = [.int 0] := rfl
theorem row2 : rowI 0 (Int.toNat 2) = [.int 0, .int 1] := rfl
theorem row3 : rowI 0 (Int.toNat 3) = [.int 0, .int 1, .int 2] := rfl
theorem row4 : rowI 0 (Int.toNat 4) = [.int 0, .int 1, .int 2, .int 3] := rfl
theorem row5 : rowI 0 (Int.toNat 5) = [.int 0, .int 1, .int 2, .int 3, .int 4] := rfl
theorem row6 : rowI 0 (Int.toNat 6) = [.int 0, .int 1, .int 2, .int 3, .int 4, .int 5] := rfl
theorem rngOk {n : Int} (h0 : -1000000000 ≤ n) (h : n ≤ 1000000000) : rngB 0 n = true := by
  unfold rngB
  simp only [Bool.and_eq_true, decide_eq_true_eq]
  omega
local macro_rules | `(tactic| walk_at "w4") => `(tactic| try simp (disch := (first | omega | (simp only [List.length_cons, List.length_nil] <;> omega) | fail)) only [e_sNil, e_sSeq, e_sRet, e_sRetN, e_sBrk, e_sCnt, e_sRetV, e_sIf, e_sDrop, e_sAsg, e_sAsg2, e_sPar2, e_sPar3, e_sFor, fornx_nx, fornx_ct, fornx_bk, fornx_rt, e_forL_nil, e_forL_cons, e_gOwn, e_gVal, e_gShare0, e_gsNil, e_gsCons, e_gTpT, e_gTpL, e_gTpF, e_cC, e_vl, e_cVar, e_firstVar, e_firstVal, e_lateVar, e_lateVal, e_cOp1, e_cOp2, e_aNil, e_aCons, e_aStar, e_cTup, e_cLst, e_cCall, e_cCallV, e_fnOf, e_fnOf_, e_cIf, e_tB, e_tTru, e_cNotM, e_tNotM, e_tru1, e_cAnd1, e_cAnd2, e_cOr1, e_cOr2, e_tAnd1, e_tAnd2, e_tOr1, e_tOr2, e_tYes, e_optN, e_optS, e_cCut, e_cTab, e_iVal, e_iVar, e_seqL, e_seqT, e_iRange1, e_iRange2, e_intO, e_strO, e_iZipM, e_zipL, e_zipT, e_pairs, e_pairs0, e_cLc, e_lcN, e_lcC, e_cLc2, e_loN, e_loC, e_cMt1, e_fFlIf, e_fSIf, e_cMt0, e_gSet, e_sAugS, e_lstAt, e_lstFl, e_lstRef0, e_putAt, putO_fl, putO_ref0, e_endRt, e_endNx, le_lim, lt_lim, e_add, e_addT, e_addL, e_sub, e_mul, e_div, e_mod, e_lt, e_le, e_gt, e_ge, e_abs, e_neg, e_int1, e_addI, e_subI, e_truB, e_truI, e_truL, e_truT, e_itT, e_itL, e_lenT, e_lenL, e_tupT, e_tupL, e_appd, e_eqI, e_neI, e_eqS, e_eqB, e_neB, nthD_0, nthD_s, e_ixT, e_ixL, e_ixT0, e_ixT1, e_ixT2, e_ixT3, e_ixT4, e_ixT5, e_ixT6, e_ixT7, e_ixL0, e_ixL1, e_ixL2, e_ixL3, e_ixL4, e_ixL5, e_ixL6, e_ixL7, e_ixR00, e_ixR01, e_ixR02, e_ixR03, e_map, e_atI0, e_atI1, e_atI2, e_atI3, e_ixN0, e_ixN1, e_ixN2, e_ixN3, cut_from0, cut_from1, cut_from2, cut_from3, cut_to0, cut_to1, cut_to2, cut_to3, e_cutT, e_cutL, hide_d, wipe_n, wipe_c, hideG_d, hideG_o, hideG_n, e_kRet, e_kNx, e_kAsg, e_kAsg2b, e_kAsg2, e_kPar2c, e_kPar2b, e_kPar2a, e_kPar3d, e_kPar3c, e_kPar3b, e_kPar3a, e_kFor, e_kForB, e_kAugC, e_kAugB, e_kRetV, e_kToD, e_kFv, e_kOk, e_kOp1c, e_kOp1, e_kOp2d, e_kOp2c, e_kOp2b, e_kOp2a, e_kConsB, e_kCons, e_kStarC, e_kStarB, e_kStarA, e_kStar, e_kTup, e_kLst, e_kCall, e_kCallVB, e_kCallV, e_kOkB, e_kTruB, e_kTru, e_kNotM, e_kTNot, e_kTru1B, e_kTru1, e_kOptB, e_kOpt, e_kCutD, e_kCutC, e_kCutB, e_kCut, e_kOkD, e_kTabB, e_kTab, e_kOkL, e_kIVal, e_kRg1B, e_kRg1, e_kRg2D, e_kRg2C, e_kRg2B, e_kRg2, e_kZipB, e_kZip, e_kLc, e_kLcA, e_kLc2, e_kLoD, e_kLoC, e_kLoA, e_kMtC, e_kMtB, e_kMtA, e_kMt0, e_kSetD, e_kSetC, e_kSetB, e_kSetA, e_kAsG, e_kAsF, e_kAsE, e_kAsD, e_kAsC, e_kAsB, e_kAsA, e_kAs, e_kGs, e_kIfS1, e_kIfS0, cvG_d, cvG_fl, e_kIfE1, e_kIfE0, e_kTB, e_kAndE1, e_kAndE0, e_kOrE1, e_kOrE0, e_ktAnd1, e_ktAnd0, e_ktOr1, e_ktOr0, ivG_fl, ivG_l, ivG_t, e_kLcC, e_kLcB1, e_kLcB0, RcO_ok, e_kLoB1, e_kLoB0, slotO_0, slotO_s, set_0, set_s, ofO_some, ofOF_some, ofRc_ok, RcB_ok, bind_ok, fl_ok, Fl.seq_nx, Fl.seq_rt, Fl.seq_bk, Fl.seq_ct, toD_d, toD_fl, beq_self_eq_true, eq_self, p1018, p1012, p109, cDivS, cModP, Int.reduceMod, Int.reduceSub, Int.reduceAdd, Int.reduceNeg, Int.reduceLT, Int.reduceLE, Int.reduceEq, Int.reduceMul, Int.reduceDiv, List.length_cons, List.length_nil, Nat.reduceAdd, Nat.reduceLT, Nat.reduceLeDiff, Nat.reduceEqDiff, if_true, if_false, Bool.false_eq_true, reduceIte, reduceCtorEq, Nat.zero_lt_succ, Option.bind_some, Option.map_some, Option.isSome_some, List.cons_append, List.nil_append, decide_true, decide_false, Bool.not_true, Bool.not_false, List.isEmpty_nil, List.isEmpty_cons, Nat.zero_add, List.map_cons, List.map_nil, List.drop_succ_cons, List.drop_zero, List.take_succ_cons, List.take_zero, ix_fr0, ix_fr1, fr0, fr1, frm1, plus_s, minus_s, times_s, ladd_s, lsub_s, lmul_s, less_s, lless_s, size_s, labs_s, lesser_s, greater_s, llesser_s, lgreater_s, point_s, plus_span_s, minus_span_s, times_span_s, least_span_s, most_span_s, joined_span_s, holds_s, far_s, wide_s, span_of_s, apart_s, lfar_s, row0, row1, row2, row3, row4, row5, row6, rngOk, e_eqF, e_neF, least_of2_s, least_of3_s, least_of4_s])
section
variable (k : Nat) (a b c d : Rat) {na nb nc nd : Nat} [Bt a na] [Bt b nb] [Bt c nc] [Bt d nd] (S : List Ob)
instance instBtNear : Bt (near a b) (max 1 (max na nb)) := by
  unfold near; split
  · exact instBt0.le (Nat.le_max_left _ _)
  · exact instBtMin.le (Nat.le_max_right _ _)
instance instBtPlo (n : Nat) : Bt (powLo a b n) (max (max (1 + n * na) (1 + n * nb)) 1) := by
  unfold powLo; split
  · exact instBtMin
  · exact instBtMin.le (Nat.le_max_left _ _)
instance instBtPhi (n : Nat) : Bt (powHi a b n) (max (max (1 + n * na) (1 + n * nb)) 1) := by
  unfold powHi; split
  · exact instBtMax
  · exact instBtMax.le (Nat.le_max_left _ _)
theorem near_eq : (if inB a b 0 = true then fr 0 else fr (rmin (rabs a) (rabs b))) = fr (near a b) := by
  unfold near inB
  by_cases h1 : (0 : Rat) < a <;> by_cases h2 : b < 0 <;> simp [h1, h2]
theorem near_t (h : inB a b 0 = true) : near a b = 0 := by
  unfold near; unfold inB at h
  rw [if_pos]; simpa using h
theorem near_f (h : inB a b 0 = false) : near a b = rmin (rabs a) (rabs b) := by
  unfold near; unfold inB at h
  rw [if_neg]; simpa using h
theorem power0_s (hab : a ≤ b) (h : na + nb ≤ 500) : callN pg (k + 4) 18 [.tuple [fr a, fr b], .int 0] S = .ok (.d (.tuple [fr (powLo a b 0), fr (powHi a b 0)])) S := by
  obtain ⟨e1, e2⟩ := pow_even_eq hab 0
  simp only [Nat.reduceMul] at e1 e2
  rw [c18, e1, e2]; unfold b18
  cases z : inB a b 0 <;> (first | rw [near_t a b z] | rw [near_f a b z]) <;> simp only [rpow] <;> walk_at "w4" <;> simp only [z] <;> walk_at "w4"
theorem power2_s (hab : a ≤ b) (h : na + nb ≤ 500) : callN pg (k + 4) 18 [.tuple [fr a, fr b], .int 2] S = .ok (.d (.tuple [fr (powLo a b 2), fr (powHi a b 2)])) S := by
  obtain ⟨e1, e2⟩ := pow_even_eq hab 1
  simp only [Nat.reduceMul] at e1 e2
  rw [c18, e1, e2]; unfold b18
  cases z : inB a b 0 <;> (first | rw [near_t a b z] | rw [near_f a b z]) <;> simp only [rpow] <;> walk_at "w4" <;> simp only [z] <;> walk_at "w4"
theorem power4_s (hab : a ≤ b) (h : na + nb ≤ 500) : callN pg (k + 4) 18 [.tuple [fr a, fr b], .int 4] S = .ok (.d (.tuple [fr (powLo a b 4), fr (powHi a b 4)])) S := by
  obtain ⟨e1, e2⟩ := pow_even_eq hab 2
  simp only [Nat.reduceMul] at e1 e2
  rw [c18, e1, e2]; unfold b18
  cases z : inB a b 0 <;> (first | rw [near_t a b z] | rw [near_f a b z]) <;> simp only [rpow] <;> walk_at "w4" <;> simp only [z] <;> walk_at "w4"
theorem power1_s (hab : a ≤ b) (h : na + nb ≤ 500) : callN pg (k + 4) 18 [.tuple [fr a, fr b], .int 1] S = .ok (.d (.tuple [fr (powLo a b 1), fr (powHi a b 1)])) S := by
  obtain ⟨e1, e2⟩ := pow_odd_eq hab 0
  simp only [Nat.reduceMul, Nat.reduceAdd] at e1 e2
  rw [c18, e1, e2]; unfold b18
  simp only [rpow]
  walk_at "w4"
theorem power3_s (hab : a ≤ b) (h : na + nb ≤ 500) : callN pg (k + 4) 18 [.tuple [fr a, fr b], .int 3] S = .ok (.d (.tuple [fr (powLo a b 3), fr (powHi a b 3)])) S := by
  obtain ⟨e1, e2⟩ := pow_odd_eq hab 1
  simp only [Nat.reduceMul, Nat.reduceAdd] at e1 e2
  rw [c18, e1, e2]; unfold b18
  simp only [rpow]
  walk_at "w4"
theorem power5_s (hab : a ≤ b) (h : na + nb ≤ 500) : callN pg (k + 4) 18 [.tuple [fr a, fr b], .int 5] S = .ok (.d (.tuple [fr (powLo a b 5), fr (powHi a b 5)])) S := by
  obtain ⟨e1, e2⟩ := pow_odd_eq hab 2
  simp only [Nat.reduceMul, Nat.reduceAdd] at e1 e2
  rw [c18, e1, e2]; unfold b18
  simp only [rpow]
  walk_at "w4"
theorem lpower0_s (h : na ≤ 500) : callN pg (k + 3) 81 [fr a, .int 0] S = .ok (.d (fr (rpow a 0))) S := by
  rw [c81]; unfold b81
  simp only [rpow]
  walk_at "w4"
theorem lpower1_s (h : na ≤ 500) : callN pg (k + 3) 81 [fr a, .int 1] S = .ok (.d (fr (rpow a 1))) S := by
  rw [c81]; unfold b81
  simp only [rpow]
  walk_at "w4"
theorem lpower2_s (h : na ≤ 500) : callN pg (k + 3) 81 [fr a, .int 2] S = .ok (.d (fr (rpow a 2))) S := by
  rw [c81]; unfold b81
  simp only [rpow]
  walk_at "w4"
theorem lpower3_s (h : na ≤ 500) : callN pg (k + 3) 81 [fr a, .int 3] S = .ok (.d (fr (rpow a 3))) S := by
  rw [c81]; unfold b81
  simp only [rpow]
  walk_at "w4"
theorem lpower4_s (h : na ≤ 500) : callN pg (k + 3) 81 [fr a, .int 4] S = .ok (.d (fr (rpow a 4))) S := by
  rw [c81]; unfold b81
  simp only [rpow]
  walk_at "w4"
theorem lpower5_s (h : na ≤ 500) : callN pg (k + 3) 81 [fr a, .int 5] S = .ok (.d (fr (rpow a 5))) S := by
  rw [c81]; unfold b81
  simp only [rpow]
  walk_at "w4"
local macro_rules | `(tactic| walk_at "w5") => `(tactic| try simp (disch := (first | omega | (simp only [List.length_cons, List.length_nil] <;> omega) | fail)) only [e_sNil, e_sSeq, e_sRet, e_sRetN, e_sBrk, e_sCnt, e_sRetV, e_sIf, e_sDrop, e_sAsg, e_sAsg2, e_sPar2, e_sPar3, e_sFor, fornx_nx, fornx_ct, fornx_bk, fornx_rt, e_forL_nil, e_forL_cons, e_gOwn, e_gVal, e_gShare0, e_gsNil, e_gsCons, e_gTpT, e_gTpL, e_gTpF, e_cC, e_vl, e_cVar, e_firstVar, e_firstVal, e_lateVar, e_lateVal, e_cOp1, e_cOp2, e_aNil, e_aCons, e_aStar, e_cTup, e_cLst, e_cCall, e_cCallV, e_fnOf, e_fnOf_, e_cIf, e_tB, e_tTru, e_cNotM, e_tNotM, e_tru1, e_cAnd1, e_cAnd2, e_cOr1, e_cOr2, e_tAnd1, e_tAnd2, e_tOr1, e_tOr2, e_tYes, e_optN, e_optS, e_cCut, e_cTab, e_iVal, e_iVar, e_seqL, e_seqT, e_iRange1, e_iRange2, e_intO, e_strO, e_iZipM, e_zipL, e_zipT, e_pairs, e_pairs0, e_cLc, e_lcN, e_lcC, e_cLc2, e_loN, e_loC, e_cMt1, e_fFlIf, e_fSIf, e_cMt0, e_gSet, e_sAugS, e_lstAt, e_lstFl, e_lstRef0, e_putAt, putO_fl, putO_ref0, e_endRt, e_endNx, le_lim, lt_lim, e_add, e_addT, e_addL, e_sub, e_mul, e_div, e_mod, e_lt, e_le, e_gt, e_ge, e_abs, e_neg, e_int1, e_addI, e_subI, e_truB, e_truI, e_truL, e_truT, e_itT, e_itL, e_lenT, e_lenL, e_tupT, e_tupL, e_appd, e_eqI, e_neI, e_eqS, e_eqB, e_neB, nthD_0, nthD_s, e_ixT, e_ixL, e_ixT0, e_ixT1, e_ixT2, e_ixT3, e_ixT4, e_ixT5, e_ixT6, e_ixT7, e_ixL0, e_ixL1, e_ixL2, e_ixL3, e_ixL4, e_ixL5, e_ixL6, e_ixL7, e_ixR00, e_ixR01, e_ixR02, e_ixR03, e_map, e_atI0, e_atI1, e_atI2, e_atI3, e_ixN0, e_ixN1, e_ixN2, e_ixN3, cut_from0, cut_from1, cut_from2, cut_from3, cut_to0, cut_to1, cut_to2, cut_to3, e_cutT, e_cutL, hide_d, wipe_n, wipe_c, hideG_d, hideG_o, hideG_n, e_kRet, e_kNx, e_kAsg, e_kAsg2b, e_kAsg2, e_kPar2c, e_kPar2b, e_kPar2a, e_kPar3d, e_kPar3c, e_kPar3b, e_kPar3a, e_kFor, e_kForB, e_kAugC, e_kAugB, e_kRetV, e_kToD, e_kFv, e_kOk, e_kOp1c, e_kOp1, e_kOp2d, e_kOp2c, e_kOp2b, e_kOp2a, e_kConsB, e_kCons, e_kStarC, e_kStarB, e_kStarA, e_kStar, e_kTup, e_kLst, e_kCall, e_kCallVB, e_kCallV, e_kOkB, e_kTruB, e_kTru, e_kNotM, e_kTNot, e_kTru1B, e_kTru1, e_kOptB, e_kOpt, e_kCutD, e_kCutC, e_kCutB, e_kCut, e_kOkD, e_kTabB, e_kTab, e_kOkL, e_kIVal, e_kRg1B, e_kRg1, e_kRg2D, e_kRg2C, e_kRg2B, e_kRg2, e_kZipB, e_kZip, e_kLc, e_kLcA, e_kLc2, e_kLoD, e_kLoC, e_kLoA, e_kMtC, e_kMtB, e_kMtA, e_kMt0, e_kSetD, e_kSetC, e_kSetB, e_kSetA, e_kAsG, e_kAsF, e_kAsE, e_kAsD, e_kAsC, e_kAsB, e_kAsA, e_kAs, e_kGs, e_kIfS1, e_kIfS0, cvG_d, cvG_fl, e_kIfE1, e_kIfE0, e_kTB, e_kAndE1, e_kAndE0, e_kOrE1, e_kOrE0, e_ktAnd1, e_ktAnd0, e_ktOr1, e_ktOr0, ivG_fl, ivG_l, ivG_t, e_kLcC, e_kLcB1, e_kLcB0, RcO_ok, e_kLoB1, e_kLoB0, slotO_0, slotO_s, set_0, set_s, ofO_some, ofOF_some, ofRc_ok, RcB_ok, bind_ok, fl_ok, Fl.seq_nx, Fl.seq_rt, Fl.seq_bk, Fl.seq_ct, toD_d, toD_fl, beq_self_eq_true, eq_self, p1018, p1012, p109, cDivS, cModP, Int.reduceMod, Int.reduceSub, Int.reduceAdd, Int.reduceNeg, Int.reduceLT, Int.reduceLE, Int.reduceEq, Int.reduceMul, Int.reduceDiv, List.length_cons, List.length_nil, Nat.reduceAdd, Nat.reduceLT, Nat.reduceLeDiff, Nat.reduceEqDiff, if_true, if_false, Bool.false_eq_true, reduceIte, reduceCtorEq, Nat.zero_lt_succ, Option.bind_some, Option.map_some, Option.isSome_some, List.cons_append, List.nil_append, decide_true, decide_false, Bool.not_true, Bool.not_false, List.isEmpty_nil, List.isEmpty_cons, Nat.zero_add, List.map_cons, List.map_nil, List.drop_succ_cons, List.drop_zero, List.take_succ_cons, List.take_zero, ix_fr0, ix_fr1, fr0, fr1, frm1, plus_s, minus_s, times_s, ladd_s, lsub_s, lmul_s, less_s, lless_s, size_s, labs_s, lesser_s, greater_s, llesser_s, lgreater_s, point_s, plus_span_s, minus_span_s, times_span_s, least_span_s, most_span_s, joined_span_s, holds_s, far_s, wide_s, span_of_s, apart_s, lfar_s, row0, row1, row2, row3, row4, row5, row6, rngOk, e_eqF, e_neF, least_of2_s, least_of3_s, least_of4_s, lpower0_s, lpower1_s, lpower2_s, lpower3_s, lpower4_s, lpower5_s, power0_s, power1_s, power2_s, power3_s, power4_s, power5_s])
theorem lpow_span0_s (h : na + nb ≤ 190) : callN pg (k + 4) 82 [.tuple [fr a, fr b], .int 0] S = .ok (.d (.tuple [fr (powLo a b 0), fr (powHi a b 0)])) S := by
  rw [c82]; unfold b82 powLo powHi
  by_cases z1 : (0 : Rat) < a <;> by_cases z2 : b < 0 <;> simp only [z1, z2, not_true, not_false_iff, and_true, and_false, true_and, if_true, if_false, gt_iff_lt, Nat.zero_lt_succ, Nat.lt_irrefl, false_and, Nat.reduceLT] <;> walk_at "w5"
  all_goals (try simp only [z1, z2, decide_true, decide_false])
  all_goals walk_at "w5"
  all_goals (try simp only [z1, z2, decide_true, decide_false])
  all_goals walk_at "w5"
theorem lpow_span1_s (h : na + nb ≤ 190) : callN pg (k + 4) 82 [.tuple [fr a, fr b], .int 1] S = .ok (.d (.tuple [fr (powLo a b 1), fr (powHi a b 1)])) S := by
  rw [c82]; unfold b82 powLo powHi
  by_cases z1 : (0 : Rat) < a <;> by_cases z2 : b < 0 <;> simp only [z1, z2, not_true, not_false_iff, and_true, and_false, true_and, if_true, if_false, gt_iff_lt, Nat.zero_lt_succ, Nat.lt_irrefl, false_and, Nat.reduceLT] <;> walk_at "w5"
  all_goals (try simp only [z1, z2, decide_true, decide_false])
  all_goals walk_at "w5"
  all_goals (try simp only [z1, z2, decide_true, decide_false])
  all_goals walk_at "w5"
theorem lpow_span2_s (h : na + nb ≤ 190) : callN pg (k + 4) 82 [.tuple [fr a, fr b], .int 2] S = .ok (.d (.tuple [fr (powLo a b 2), fr (powHi a b 2)])) S := by
  rw [c82]; unfold b82 powLo powHi
  by_cases z1 : (0 : Rat) < a <;> by_cases z2 : b < 0 <;> simp only [z1, z2, not_true, not_false_iff, and_true, and_false, true_and, if_true, if_false, gt_iff_lt, Nat.zero_lt_succ, Nat.lt_irrefl, false_and, Nat.reduceLT] <;> walk_at "w5"
  all_goals (try simp only [z1, z2, decide_true, decide_false])
  all_goals walk_at "w5"
  all_goals (try simp only [z1, z2, decide_true, decide_false])
  all_goals walk_at "w5"
theorem lpow_span3_s (h : na + nb ≤ 190) : callN pg (k + 4) 82 [.tuple [fr a, fr b], .int 3] S = .ok (.d (.tuple [fr (powLo a b 3), fr (powHi a b 3)])) S := by
  rw [c82]; unfold b82 powLo powHi
  by_cases z1 : (0 : Rat) < a <;> by_cases z2 : b < 0 <;> simp only [z1, z2, not_true, not_false_iff, and_true, and_false, true_and, if_true, if_false, gt_iff_lt, Nat.zero_lt_succ, Nat.lt_irrefl, false_and, Nat.reduceLT] <;> walk_at "w5"
  all_goals (try simp only [z1, z2, decide_true, decide_false])
  all_goals walk_at "w5"
  all_goals (try simp only [z1, z2, decide_true, decide_false])
  all_goals walk_at "w5"
theorem lpow_span4_s (h : na + nb ≤ 190) : callN pg (k + 4) 82 [.tuple [fr a, fr b], .int 4] S = .ok (.d (.tuple [fr (powLo a b 4), fr (powHi a b 4)])) S := by
  rw [c82]; unfold b82 powLo powHi
  by_cases z1 : (0 : Rat) < a <;> by_cases z2 : b < 0 <;> simp only [z1, z2, not_true, not_false_iff, and_true, and_false, true_and, if_true, if_false, gt_iff_lt, Nat.zero_lt_succ, Nat.lt_irrefl, false_and, Nat.reduceLT] <;> walk_at "w5"
  all_goals (try simp only [z1, z2, decide_true, decide_false])
  all_goals walk_at "w5"
  all_goals (try simp only [z1, z2, decide_true, decide_false])
  all_goals walk_at "w5"
theorem lpow_span5_s (h : na + nb ≤ 190) : callN pg (k + 4) 82 [.tuple [fr a, fr b], .int 5] S = .ok (.d (.tuple [fr (powLo a b 5), fr (powHi a b 5)])) S := by
  rw [c82]; unfold b82 powLo powHi
  by_cases z1 : (0 : Rat) < a <;> by_cases z2 : b < 0 <;> simp only [z1, z2, not_true, not_false_iff, and_true, and_false, true_and, if_true, if_false, gt_iff_lt, Nat.zero_lt_succ, Nat.lt_irrefl, false_and, Nat.reduceLT] <;> walk_at "w5"
  all_goals (try simp only [z1, z2, decide_true, decide_false])
  all_goals walk_at "w5"
  all_goals (try simp only [z1, z2, decide_true, decide_false])
  all_goals walk_at "w5"
end
end K03


set_option Elab.async false
set_option linter.all false
set_option linter.unusedSimpArgs false
set_option exponentiation.threshold 20000
set_option maxRecDepth 100000
set_option maxHeartbeats 4000000
namespace K03
open PySem PySem.Spec L2 Mi
/-! KS5: parts, rows, picks. -/
theorem fr_one {p : Nat} (h : p ≠ 0) : PyData.tuple [.int 1, .int (p : Int)] = fr (mkRat 1 p) := by
  rw [← fr_mk 1 p h]
  simp
theorem bt_mk {i p : Nat} (h0 : p ≠ 0) (h1 : i ≤ 1000) (h2 : p ≤ 1000) : Bt (mkRat i p) 10 := .mk_ h0 (by omega) (by omega)
theorem tb_add : List.lookup ("add" : Str) [(("add" : Str), (dFn 12)), (("sub" : Str), (dFn 13)), (("least" : Str), (dFn 15)), (("most" : Str), (dFn 16))] = some (dFn 12) := by kernel_rfl
theorem tb_sub : List.lookup ("sub" : Str) [(("add" : Str), (dFn 12)), (("sub" : Str), (dFn 13)), (("least" : Str), (dFn 15)), (("most" : Str), (dFn 16))] = some (dFn 13) := by kernel_rfl
theorem tb_least : List.lookup ("least" : Str) [(("add" : Str), (dFn 12)), (("sub" : Str), (dFn 13)), (("least" : Str), (dFn 15)), (("most" : Str), (dFn 16))] = some (dFn 15) := by kernel_rfl
theorem tb_most : List.lookup ("most" : Str) [(("add" : Str), (dFn 12)), (("sub" : Str), (dFn 13)), (("least" : Str), (dFn 15)), (("most" : Str), (dFn 16))] = some (dFn 16) := by kernel_rfl
instance : Bt (mkRat 1 2) 2 := ⟨by decide, by decide⟩
instance : Bt (mkRat 1 4) 3 := ⟨by decide, by decide⟩
instance : Bt (mkRat 1 8) 4 := ⟨by decide, by decide⟩
instance : Bt (mkRat 1 16) 5 := ⟨by decide, by decide⟩
instance : Bt (mkRat 1 32) 6 := ⟨by decide, by decide⟩
instance : Bt (mkRat 1 100) 7 := ⟨by decide, by decide⟩
instance : Bt 3 2 := ⟨by decide, by decide⟩
theorem fr12 : PyData.tuple [.int 1, .int 2] = fr (mkRat 1 2) := rfl
theorem fr14 : PyData.tuple [.int 1, .int 4] = fr (mkRat 1 4) := rfl
theorem fr18 : PyData.tuple [.int 1, .int 8] = fr (mkRat 1 8) := rfl
theorem fr116 : PyData.tuple [.int 1, .int 16] = fr (mkRat 1 16) := rfl
theorem fr132 : PyData.tuple [.int 1, .int 32] = fr (mkRat 1 32) := rfl
theorem fr1100 : PyData.tuple [.int 1, .int 100] = fr (mkRat 1 100) := rfl
theorem fr3 : PyData.tuple [.int 3, .int 1] = fr 3 := rfl
theorem shl2 (S) : fShl S (.int 1) (.int 2) = some (.d (.int 4)) := rfl
theorem shl3 (S) : fShl S (.int 1) (.int 3) = some (.d (.int 8)) := rfl
theorem shl4 (S) : fShl S (.int 1) (.int 4) = some (.d (.int 16)) := rfl
theorem shl5 (S) : fShl S (.int 1) (.int 5) = some (.d (.int 32)) := rfl
local macro_rules | `(tactic| walk_at "w6") => `(tactic| try simp (disch := (first | omega | (simp only [List.length_cons, List.length_nil] <;> omega))) only [e_sNil, e_sSeq, e_sRet, e_sRetN, e_sBrk, e_sCnt, e_sRetV, e_sIf, e_sDrop, e_sAsg, e_sAsg2, e_sPar2, e_sPar3, e_sFor, fornx_nx, fornx_ct, fornx_bk, fornx_rt, e_forL_nil, e_forL_cons, e_gOwn, e_gVal, e_gShare0, e_gsNil, e_gsCons, e_gTpT, e_gTpL, e_gTpF, e_cC, e_vl, e_cVar, e_firstVar, e_firstVal, e_lateVar, e_lateVal, e_cOp1, e_cOp2, e_aNil, e_aCons, e_aStar, e_cTup, e_cLst, e_cCall, e_cCallV, e_fnOf, e_fnOf_, e_cIf, e_tB, e_tTru, e_cNotM, e_tNotM, e_tru1, e_cAnd1, e_cAnd2, e_cOr1, e_cOr2, e_tAnd1, e_tAnd2, e_tOr1, e_tOr2, e_tYes, e_optN, e_optS, e_cCut, e_cTab, e_iVal, e_iVar, e_seqL, e_seqT, e_iRange1, e_iRange2, e_intO, e_strO, e_iZipM, e_zipL, e_zipT, e_pairs, e_pairs0, e_cLc, e_lcN, e_lcC, e_cLc2, e_loN, e_loC, e_cMt1, e_fFlIf, e_fSIf, e_cMt0, e_gSet, e_sAugS, e_lstAt, e_lstFl, e_lstRef0, e_putAt, putO_fl, putO_ref0, e_endRt, e_endNx, le_lim, lt_lim, e_add, e_addT, e_addL, e_sub, e_mul, e_div, e_mod, e_lt, e_le, e_gt, e_ge, e_abs, e_neg, e_int1, e_addI, e_subI, e_truB, e_truI, e_truL, e_truT, e_itT, e_itL, e_lenT, e_lenL, e_tupT, e_tupL, e_appd, e_eqI, e_neI, e_eqS, e_eqB, e_neB, nthD_0, nthD_s, e_ixT, e_ixL, e_ixT0, e_ixT1, e_ixT2, e_ixT3, e_ixT4, e_ixT5, e_ixT6, e_ixT7, e_ixL0, e_ixL1, e_ixL2, e_ixL3, e_ixL4, e_ixL5, e_ixL6, e_ixL7, e_ixR00, e_ixR01, e_ixR02, e_ixR03, e_map, e_atI0, e_atI1, e_atI2, e_atI3, e_ixN0, e_ixN1, e_ixN2, e_ixN3, cut_from0, cut_from1, cut_from2, cut_from3, cut_to0, cut_to1, cut_to2, cut_to3, e_cutT, e_cutL, hide_d, wipe_n, wipe_c, hideG_d, hideG_o, hideG_n, e_kRet, e_kNx, e_kAsg, e_kAsg2b, e_kAsg2, e_kPar2c, e_kPar2b, e_kPar2a, e_kPar3d, e_kPar3c, e_kPar3b, e_kPar3a, e_kFor, e_kForB, e_kAugC, e_kAugB, e_kRetV, e_kToD, e_kFv, e_kOk, e_kOp1c, e_kOp1, e_kOp2d, e_kOp2c, e_kOp2b, e_kOp2a, e_kConsB, e_kCons, e_kStarC, e_kStarB, e_kStarA, e_kStar, e_kTup, e_kLst, e_kCall, e_kCallVB, e_kCallV, e_kOkB, e_kTruB, e_kTru, e_kNotM, e_kTNot, e_kTru1B, e_kTru1, e_kOptB, e_kOpt, e_kCutD, e_kCutC, e_kCutB, e_kCut, e_kOkD, e_kTabB, e_kTab, e_kOkL, e_kIVal, e_kRg1B, e_kRg1, e_kRg2D, e_kRg2C, e_kRg2B, e_kRg2, e_kZipB, e_kZip, e_kLc, e_kLcA, e_kLc2, e_kLoD, e_kLoC, e_kLoA, e_kMtC, e_kMtB, e_kMtA, e_kMt0, e_kSetD, e_kSetC, e_kSetB, e_kSetA, e_kAsG, e_kAsF, e_kAsE, e_kAsD, e_kAsC, e_kAsB, e_kAsA, e_kAs, e_kGs, e_kIfS1, e_kIfS0, cvG_d, cvG_fl, e_kIfE1, e_kIfE0, e_kTB, e_kAndE1, e_kAndE0, e_kOrE1, e_kOrE0, e_ktAnd1, e_ktAnd0, e_ktOr1, e_ktOr0, ivG_fl, ivG_l, ivG_t, e_kLcC, e_kLcB1, e_kLcB0, RcO_ok, e_kLoB1, e_kLoB0, slotO_0, slotO_s, set_0, set_s, ofO_some, ofOF_some, ofRc_ok, RcB_ok, bind_ok, fl_ok, Fl.seq_nx, Fl.seq_rt, Fl.seq_bk, Fl.seq_ct, toD_d, toD_fl, p1018, p1012, p109, cDivS, cModP, Int.reduceMod, Int.reduceSub, Int.reduceAdd, Int.reduceNeg, Int.reduceLT, Int.reduceLE, Int.reduceEq, Int.reduceMul, Int.reduceDiv, List.length_cons, List.length_nil, Nat.reduceAdd, Nat.reduceLT, Nat.reduceLeDiff, Nat.reduceEqDiff, if_true, if_false, Bool.false_eq_true, reduceIte, reduceCtorEq, Nat.zero_lt_succ, Option.bind_some, Option.map_some, Option.isSome_some, List.cons_append, List.nil_append, decide_true, decide_false, Bool.not_true, Bool.not_false, List.isEmpty_nil, List.isEmpty_cons, Nat.zero_add, List.map_cons, List.map_nil, List.drop_succ_cons, List.drop_zero, List.take_succ_cons, List.take_zero, ix_fr0, ix_fr1, fr0, fr1, frm1, fr12, fr14, fr18, fr116, fr132, fr1100, fr3, fr_one, plus_s, minus_s, times_s, made_s, lmade_s, ladd_s, lsub_s, lmul_s, less_s, lless_s, size_s, labs_s, lesser_s, greater_s, llesser_s, lgreater_s, point_s, plus_span_s, minus_span_s, times_span_s, least_span_s, most_span_s, joined_span_s, holds_s, far_s, wide_s, span_of_s, apart_s, lfar_s, row0, row1, row2, row3, row4, row5, row6, rngOk, e_eqF, e_neF, tb_add, tb_sub, tb_least, tb_most, shl2, shl3, shl4, shl5])
section
variable (k : Nat) (a b c d e f : Rat) {na nb nc nd ne nf : Nat} [Bt a na] [Bt b nb] [Bt c nc] [Bt d nd] [Bt e ne] [Bt f nf] (S : List Ob)
theorem part_s (p i : Nat) (hp : p ≠ 0) (hp2 : p ≤ 100) (hi : i ≤ 100) (h : na + nb ≤ 500) : callN pg (k + 5) 24 [.tuple [fr a, fr b], .int (p : Int), .int (i : Int)] S = .ok (.d (.tuple [fr (a + (b - a) * mkRat i p), fr (a + (b - a) * mkRat i p + (b - a) * mkRat 1 p)])) S := by
  haveI : Bt (mkRat i p) 10 := bt_mk hp (by omega) (by omega)
  haveI : Bt (mkRat 1 p) 10 := bt_mk (i := 1) hp (by omega) (by omega)
  rw [c24]; unfold b24
  walk_at "w6"
theorem unit2_s : callN pg (k + 2) 54 [.int 2] S = .ok (.d (fr (mkRat 1 4))) S := by rw [c54]; unfold b54; walk_at "w6"; rw [c9]; unfold b9; kernel_rfl
theorem unit3_s : callN pg (k + 2) 54 [.int 3] S = .ok (.d (fr (mkRat 1 8))) S := by rw [c54]; unfold b54; walk_at "w6"; rw [c9]; unfold b9; kernel_rfl
theorem unit4_s : callN pg (k + 2) 54 [.int 4] S = .ok (.d (fr (mkRat 1 16))) S := by rw [c54]; unfold b54; walk_at "w6"; rw [c9]; unfold b9; kernel_rfl
theorem unit5_s : callN pg (k + 2) 54 [.int 5] S = .ok (.d (fr (mkRat 1 32))) S := by rw [c54]; unfold b54; walk_at "w6"; rw [c9]; unfold b9; kernel_rfl
theorem ltwo2_s : callN pg (k + 1) 73 [.int (-2)] S = .ok (.d (fr (mkRat 1 4))) S := by rw [c73]; unfold b73; kernel_rfl
theorem ltwo3_s : callN pg (k + 1) 73 [.int (-3)] S = .ok (.d (fr (mkRat 1 8))) S := by rw [c73]; unfold b73; kernel_rfl
theorem ltwo4_s : callN pg (k + 1) 73 [.int (-4)] S = .ok (.d (fr (mkRat 1 16))) S := by rw [c73]; unfold b73; kernel_rfl
theorem ltwo5_s : callN pg (k + 1) 73 [.int (-5)] S = .ok (.d (fr (mkRat 1 32))) S := by rw [c73]; unfold b73; kernel_rfl
theorem sum_add_s (s t : Int) (h : na + nb + nc + nd + ne + nf ≤ 1000) : callN pg (k + 5) 56 [.str "add", .tuple [.int s, fr a, fr b, fr e], .tuple [.int t, fr c, fr d, fr f]] S = .ok (.d (.tuple [.int s, fr (a + c), fr (b + d), fr (e + f)])) S := by
  rw [c56]; unfold b56
  walk_at "w6"
theorem sum_sub_s (s t : Int) (h : na + nb + nc + nd + ne + nf ≤ 1000) : callN pg (k + 5) 56 [.str "sub", .tuple [.int s, fr a, fr b, fr e], .tuple [.int t, fr c, fr d, fr f]] S = .ok (.d (.tuple [.int s, fr (a - d), fr (b - c), fr (e + f)])) S := by
  rw [c56]; unfold b56
  walk_at "w6"
theorem chosen_least_s (s t : Int) (h : na + nb + nc + nd + ne + nf ≤ 1000) : callN pg (k + 4) 58 [.str "least", .tuple [.int s, fr a, fr b, fr e], .tuple [.int t, fr c, fr d, fr f]] S = .ok (.d (.tuple [.int s, fr (rmin a c), fr (rmin b d), fr (rmax e f)])) S := by
  rw [c58]; unfold b58
  walk_at "w6"
theorem chosen_most_s (s t : Int) (h : na + nb + nc + nd + ne + nf ≤ 1000) : callN pg (k + 4) 58 [.str "most", .tuple [.int s, fr a, fr b, fr e], .tuple [.int t, fr c, fr d, fr f]] S = .ok (.d (.tuple [.int s, fr (rmax a c), fr (rmax b d), fr (rmax e f)])) S := by
  rw [c58]; unfold b58
  walk_at "w6"
local macro_rules | `(tactic| walk_at "w7") => `(tactic| try simp (disch := (first | omega | (simp only [List.length_cons, List.length_nil] <;> omega))) only [e_sNil, e_sSeq, e_sRet, e_sRetN, e_sBrk, e_sCnt, e_sRetV, e_sIf, e_sDrop, e_sAsg, e_sAsg2, e_sPar2, e_sPar3, e_sFor, fornx_nx, fornx_ct, fornx_bk, fornx_rt, e_forL_nil, e_forL_cons, e_gOwn, e_gVal, e_gShare0, e_gsNil, e_gsCons, e_gTpT, e_gTpL, e_gTpF, e_cC, e_vl, e_cVar, e_firstVar, e_firstVal, e_lateVar, e_lateVal, e_cOp1, e_cOp2, e_aNil, e_aCons, e_aStar, e_cTup, e_cLst, e_cCall, e_cCallV, e_fnOf, e_fnOf_, e_cIf, e_tB, e_tTru, e_cNotM, e_tNotM, e_tru1, e_cAnd1, e_cAnd2, e_cOr1, e_cOr2, e_tAnd1, e_tAnd2, e_tOr1, e_tOr2, e_tYes, e_optN, e_optS, e_cCut, e_cTab, e_iVal, e_iVar, e_seqL, e_seqT, e_iRange1, e_iRange2, e_intO, e_strO, e_iZipM, e_zipL, e_zipT, e_pairs, e_pairs0, e_cLc, e_lcN, e_lcC, e_cLc2, e_loN, e_loC, e_cMt1, e_fFlIf, e_fSIf, e_cMt0, e_gSet, e_sAugS, e_lstAt, e_lstFl, e_lstRef0, e_putAt, putO_fl, putO_ref0, e_endRt, e_endNx, le_lim, lt_lim, e_add, e_addT, e_addL, e_sub, e_mul, e_div, e_mod, e_lt, e_le, e_gt, e_ge, e_abs, e_neg, e_int1, e_addI, e_subI, e_truB, e_truI, e_truL, e_truT, e_itT, e_itL, e_lenT, e_lenL, e_tupT, e_tupL, e_appd, e_eqI, e_neI, e_eqS, e_eqB, e_neB, nthD_0, nthD_s, e_ixT, e_ixL, e_ixT0, e_ixT1, e_ixT2, e_ixT3, e_ixT4, e_ixT5, e_ixT6, e_ixT7, e_ixL0, e_ixL1, e_ixL2, e_ixL3, e_ixL4, e_ixL5, e_ixL6, e_ixL7, e_ixR00, e_ixR01, e_ixR02, e_ixR03, e_map, e_atI0, e_atI1, e_atI2, e_atI3, e_ixN0, e_ixN1, e_ixN2, e_ixN3, cut_from0, cut_from1, cut_from2, cut_from3, cut_to0, cut_to1, cut_to2, cut_to3, e_cutT, e_cutL, hide_d, wipe_n, wipe_c, hideG_d, hideG_o, hideG_n, e_kRet, e_kNx, e_kAsg, e_kAsg2b, e_kAsg2, e_kPar2c, e_kPar2b, e_kPar2a, e_kPar3d, e_kPar3c, e_kPar3b, e_kPar3a, e_kFor, e_kForB, e_kAugC, e_kAugB, e_kRetV, e_kToD, e_kFv, e_kOk, e_kOp1c, e_kOp1, e_kOp2d, e_kOp2c, e_kOp2b, e_kOp2a, e_kConsB, e_kCons, e_kStarC, e_kStarB, e_kStarA, e_kStar, e_kTup, e_kLst, e_kCall, e_kCallVB, e_kCallV, e_kOkB, e_kTruB, e_kTru, e_kNotM, e_kTNot, e_kTru1B, e_kTru1, e_kOptB, e_kOpt, e_kCutD, e_kCutC, e_kCutB, e_kCut, e_kOkD, e_kTabB, e_kTab, e_kOkL, e_kIVal, e_kRg1B, e_kRg1, e_kRg2D, e_kRg2C, e_kRg2B, e_kRg2, e_kZipB, e_kZip, e_kLc, e_kLcA, e_kLc2, e_kLoD, e_kLoC, e_kLoA, e_kMtC, e_kMtB, e_kMtA, e_kMt0, e_kSetD, e_kSetC, e_kSetB, e_kSetA, e_kAsG, e_kAsF, e_kAsE, e_kAsD, e_kAsC, e_kAsB, e_kAsA, e_kAs, e_kGs, e_kIfS1, e_kIfS0, cvG_d, cvG_fl, e_kIfE1, e_kIfE0, e_kTB, e_kAndE1, e_kAndE0, e_kOrE1, e_kOrE0, e_ktAnd1, e_ktAnd0, e_ktOr1, e_ktOr0, ivG_fl, ivG_l, ivG_t, e_kLcC, e_kLcB1, e_kLcB0, RcO_ok, e_kLoB1, e_kLoB0, slotO_0, slotO_s, set_0, set_s, ofO_some, ofOF_some, ofRc_ok, RcB_ok, bind_ok, fl_ok, Fl.seq_nx, Fl.seq_rt, Fl.seq_bk, Fl.seq_ct, toD_d, toD_fl, p1018, p1012, p109, cDivS, cModP, Int.reduceMod, Int.reduceSub, Int.reduceAdd, Int.reduceNeg, Int.reduceLT, Int.reduceLE, Int.reduceEq, Int.reduceMul, Int.reduceDiv, List.length_cons, List.length_nil, Nat.reduceAdd, Nat.reduceLT, Nat.reduceLeDiff, Nat.reduceEqDiff, if_true, if_false, Bool.false_eq_true, reduceIte, reduceCtorEq, Nat.zero_lt_succ, Option.bind_some, Option.map_some, Option.isSome_some, List.cons_append, List.nil_append, decide_true, decide_false, Bool.not_true, Bool.not_false, List.isEmpty_nil, List.isEmpty_cons, Nat.zero_add, List.map_cons, List.map_nil, List.drop_succ_cons, List.drop_zero, List.take_succ_cons, List.take_zero, ix_fr0, ix_fr1, fr0, fr1, frm1, fr12, fr14, fr18, fr116, fr132, fr1100, fr3, plus_s, minus_s, times_s, made_s, lmade_s, ladd_s, lsub_s, lmul_s, less_s, lless_s, size_s, labs_s, lesser_s, greater_s, llesser_s, lgreater_s, point_s, plus_span_s, minus_span_s, times_span_s, least_span_s, most_span_s, joined_span_s, holds_s, far_s, wide_s, span_of_s, apart_s, lfar_s, e_eqF, e_neF, unit2_s, unit3_s, unit4_s, unit5_s, least_of4_s])
/-- the error of a product -/
def mErr (a b c d e f : Rat) : Rat := rmax (rabs a) (rabs b) * f + rmax (rabs c) (rabs d) * e + e * f
def uR : Nat → Rat
  | 0 => 0
  | 1 => mkRat 1 32
  | 2 => mkRat 1 16
  | 3 => mkRat 1 8
  | _ => mkRat 1 4
theorem mul_row0_s (h : na + nb + nc + nd + ne + nf ≤ 500) : callN pg (k + 6) 57 [.tuple [.int 3, fr a, fr b, fr e], .tuple [.int 3, fr c, fr d, fr f], .int 0] S = .ok (.d (.tuple [.int 6, fr (mlo a b c d), fr (mhi a b c d), fr (mErr a b c d e f)])) S := by
  rw [c57]; unfold b57 mErr
  walk_at "w7"
theorem mul_row1_s (h : na + nb + nc + nd + ne + nf ≤ 500) : callN pg (k + 6) 57 [.tuple [.int 3, fr a, fr b, fr e], .tuple [.int 3, fr c, fr d, fr f], .int 1] S = .ok (.d (.tuple [.int 5, fr (mlo a b c d), fr (mhi a b c d), fr (mErr a b c d e f + uR 1)])) S := by
  rw [c57]; unfold b57 mErr
  walk_at "w7"
  rfl
theorem mul_row2_s (h : na + nb + nc + nd + ne + nf ≤ 500) : callN pg (k + 6) 57 [.tuple [.int 3, fr a, fr b, fr e], .tuple [.int 3, fr c, fr d, fr f], .int 2] S = .ok (.d (.tuple [.int 4, fr (mlo a b c d), fr (mhi a b c d), fr (mErr a b c d e f + uR 2)])) S := by
  rw [c57]; unfold b57 mErr
  walk_at "w7"
  rfl
theorem mul_row3_s (h : na + nb + nc + nd + ne + nf ≤ 500) : callN pg (k + 6) 57 [.tuple [.int 3, fr a, fr b, fr e], .tuple [.int 3, fr c, fr d, fr f], .int 3] S = .ok (.d (.tuple [.int 3, fr (mlo a b c d), fr (mhi a b c d), fr (mErr a b c d e f + uR 3)])) S := by
  rw [c57]; unfold b57 mErr
  walk_at "w7"
  rfl
theorem mul_row4_s (h : na + nb + nc + nd + ne + nf ≤ 500) : callN pg (k + 6) 57 [.tuple [.int 3, fr a, fr b, fr e], .tuple [.int 3, fr c, fr d, fr f], .int 4] S = .ok (.d (.tuple [.int 2, fr (mlo a b c d), fr (mhi a b c d), fr (mErr a b c d e f + uR 4)])) S := by
  rw [c57]; unfold b57 mErr
  walk_at "w7"
  rfl
/-! picks, by what the rows tell -/
section
variable (l1 h1 e1 l2 h2 e2 : Rat) {nl1 nh1 ne1 nl2 nh2 ne2 : Nat} [Bt l1 nl1] [Bt h1 nh1] [Bt e1 ne1] [Bt l2 nl2] [Bt h2 nh2] [Bt e2 ne2] (s0 s1 s2 s3 : Int)
theorem pick_row1_s (z : b + (e + f) < c) (h : na + nb + nc + nd + ne + nf ≤ 500) (hh : nl1 + nh1 + ne1 + nl2 + nh2 + ne2 ≤ 500) : callN pg (k + 6) 60 [.tuple [.int s0, fr a, fr b, fr e], .tuple [.int s1, fr c, fr d, fr f], .tuple [.int s2, fr l1, fr h1, fr e1], .tuple [.int s3, fr l2, fr h2, fr e2]] S = .ok (.d (.tuple [.int s2, fr l1, fr h1, fr e1])) S := by
  rw [c60]; unfold b60
  walk_at "w7"
  simp only [z, decide_true]
  walk_at "w7"
theorem pick_row2_s (z : ¬ b + (e + f) < c) (z2 : ¬ a - (e + f) < d) (h : na + nb + nc + nd + ne + nf ≤ 500) (hh : nl1 + nh1 + ne1 + nl2 + nh2 + ne2 ≤ 500) : callN pg (k + 6) 60 [.tuple [.int s0, fr a, fr b, fr e], .tuple [.int s1, fr c, fr d, fr f], .tuple [.int s2, fr l1, fr h1, fr e1], .tuple [.int s3, fr l2, fr h2, fr e2]] S = .ok (.d (.tuple [.int s3, fr l2, fr h2, fr e2])) S := by
  rw [c60]; unfold b60
  walk_at "w7"
  simp only [z, decide_false]
  walk_at "w7"
  simp only [z2, decide_false]
  walk_at "w7"
def pkE (e f l1 h1 e1 l2 h2 e2 : Rat) : Rat := if e + f = 0 then rmax e1 e2 else rmax e1 e2 + rmax 0 (rmax (h1 - l2) (h2 - l1))
theorem pick_row3_s (z : ¬ b + (e + f) < c) (z2 : a - (e + f) < d) (h : na + nb + nc + nd + ne + nf ≤ 500) (hh : nl1 + nh1 + ne1 + nl2 + nh2 + ne2 ≤ 500) : callN pg (k + 6) 60 [.tuple [.int s0, fr a, fr b, fr e], .tuple [.int s1, fr c, fr d, fr f], .tuple [.int s2, fr l1, fr h1, fr e1], .tuple [.int s3, fr l2, fr h2, fr e2]] S = .ok (.d (.tuple [.int s2, fr (rmin l1 l2), fr (rmax h1 h2), fr (pkE e f l1 h1 e1 l2 h2 e2)])) S := by
  rw [c60]; unfold b60 pkE
  walk_at "w7"
  simp only [z, decide_false]
  walk_at "w7"
  simp only [z2, decide_true]
  walk_at "w7"
  by_cases z3 : e + f = 0 <;> simp only [z3, decide_true, decide_false, if_true, if_false] <;> walk_at "w7"
theorem lpick1_s (z : b + (e + f) < c) (h : na + nb + nc + nd + ne + nf ≤ 500) (hh : nl1 + nh1 + ne1 + nl2 + nh2 + ne2 ≤ 500) : callN pg (k + 5) 76 [.tuple [.int s0, fr a, fr b, fr e], .tuple [.int s1, fr c, fr d, fr f], .tuple [.int s2, fr l1, fr h1, fr e1], .tuple [.int s3, fr l2, fr h2, fr e2]] S = .ok (.d (.tuple [fr l1, fr h1, fr e1])) S := by
  rw [c76]; unfold b76
  walk_at "w7"
  simp only [z, decide_true]
  walk_at "w7"
theorem lpick2_s (z : ¬ b + (e + f) < c) (z2 : ¬ a - (e + f) < d) (h : na + nb + nc + nd + ne + nf ≤ 500) (hh : nl1 + nh1 + ne1 + nl2 + nh2 + ne2 ≤ 500) : callN pg (k + 5) 76 [.tuple [.int s0, fr a, fr b, fr e], .tuple [.int s1, fr c, fr d, fr f], .tuple [.int s2, fr l1, fr h1, fr e1], .tuple [.int s3, fr l2, fr h2, fr e2]] S = .ok (.d (.tuple [fr l2, fr h2, fr e2])) S := by
  rw [c76]; unfold b76
  walk_at "w7"
  simp only [z, decide_false]
  walk_at "w7"
  simp only [z2, decide_false]
  walk_at "w7"
theorem lpick3_s (z : ¬ b + (e + f) < c) (z2 : a - (e + f) < d) (h : na + nb + nc + nd + ne + nf ≤ 500) (hh : nl1 + nh1 + ne1 + nl2 + nh2 + ne2 ≤ 500) (g1 : l1 ≤ h1) (g2 : l2 ≤ h2) : callN pg (k + 5) 76 [.tuple [.int s0, fr a, fr b, fr e], .tuple [.int s1, fr c, fr d, fr f], .tuple [.int s2, fr l1, fr h1, fr e1], .tuple [.int s3, fr l2, fr h2, fr e2]] S = .ok (.d (.tuple [fr (rmin l1 l2), fr (rmax h1 h2), fr (pkE e f l1 h1 e1 l2 h2 e2)])) S := by
  rw [c76]; unfold b76 pkE
  rw [← apart_eq g1 g2]
  walk_at "w7"
  simp only [z, decide_false]
  walk_at "w7"
  simp only [z2, decide_true]
  walk_at "w7"
  by_cases z3 : e + f = 0 <;> simp only [z3, decide_true, decide_false, if_true, if_false] <;> walk_at "w7"
end
/-- the interval of a pick -/
theorem lpicked1_s (z : b < c) (x y : D) (h : na + nb + nc + nd ≤ 500) : callN pg (k + 4) 87 [.tuple [fr a, fr b], .tuple [fr c, fr d], x, y] S = .ok (.d x) S := by
  rw [c87]; unfold b87
  walk_at "w7"
  simp only [z, decide_true]
  walk_at "w7"
theorem lpicked2_s (z : ¬ b < c) (z2 : ¬ a < d) (x y : D) (h : na + nb + nc + nd ≤ 500) : callN pg (k + 4) 87 [.tuple [fr a, fr b], .tuple [fr c, fr d], x, y] S = .ok (.d y) S := by
  rw [c87]; unfold b87
  walk_at "w7"
  simp only [z, decide_false]
  walk_at "w7"
  simp only [z2, decide_false]
  walk_at "w7"
section
variable (l1 h1 l2 h2 : Rat) {nl1 nh1 nl2 nh2 : Nat} [Bt l1 nl1] [Bt h1 nh1] [Bt l2 nl2] [Bt h2 nh2]
theorem lpicked3_s (z : ¬ b < c) (z2 : a < d) (h : na + nb + nc + nd ≤ 500) (hh : nl1 + nh1 + nl2 + nh2 ≤ 500) (g1 : l1 ≤ h1) (g2 : l2 ≤ h2) : callN pg (k + 4) 87 [.tuple [fr a, fr b], .tuple [fr c, fr d], .tuple [fr l1, fr h1], .tuple [fr l2, fr h2]] S = .ok (.d (.tuple [fr (rmin l1 l2), fr (rmax h1 h2)])) S := by
  have m1 : rmin (rmin (rmin l1 h1) l2) h2 = rmin l1 l2 := by unfold rmin; grind
  have m2 : rmax (rmax (rmax l1 h1) l2) h2 = rmax h1 h2 := by unfold rmax; grind
  rw [c87, ← m1, ← m2]; unfold b87
  walk_at "w7"
  simp only [z, decide_false]
  walk_at "w7"
  simp only [z2, decide_true]
  walk_at "w7"
theorem pick_span1_s (z : b < 0) (x y : D) (h : na + nb ≤ 500) : callN pg (k + 4) 47 [.list [.tuple [fr a, fr b], x, y]] S = .ok (.d x) S := by
  rw [c47]; unfold b47
  walk_at "w7"
  simp only [z, decide_true]
  walk_at "w7"
theorem pick_span2_s (z : ¬ b < 0) (z2 : ¬ a < 0) (x y : D) (h : na + nb ≤ 500) : callN pg (k + 4) 47 [.list [.tuple [fr a, fr b], x, y]] S = .ok (.d y) S := by
  rw [c47]; unfold b47
  walk_at "w7"
  simp only [z, decide_false]
  walk_at "w7"
  simp only [z2, decide_false]
  walk_at "w7"
theorem pick_span3_s (z : ¬ b < 0) (z2 : a < 0) (h : na + nb ≤ 500) (hh : nl1 + nh1 + nl2 + nh2 ≤ 500) : callN pg (k + 4) 47 [.list [.tuple [fr a, fr b], .tuple [fr l1, fr h1], .tuple [fr l2, fr h2]]] S = .ok (.d (.tuple [fr (rmin l1 l2), fr (rmax h1 h2)])) S := by
  rw [c47]; unfold b47
  walk_at "w7"
  simp only [z, decide_false]
  walk_at "w7"
  simp only [z2, decide_true]
  walk_at "w7"
end
end
end K03


set_option Elab.async false
set_option linter.all false
set_option linter.unusedSimpArgs false
set_option exponentiation.threshold 20000
set_option maxRecDepth 100000
set_option maxHeartbeats 4000000
namespace K03
open PySem PySem.Spec L2 Mi
/-! KS6: the bag. -/
def Bag (n : Nat) (S : List Ob) : Prop := ∃ (b0 b1 b2 : Int) (cs : List Int), S = [.lst [.int b0, .int b1, .int b2, .list (cs.map PyData.int)]] ∧ 0 ≤ b0 ∧ 0 ≤ b1 ∧ b1 < 2147483647 ∧ 0 ≤ b2 ∧ b2 ≤ n ∧ (∀ c ∈ cs, 0 ≤ c) ∧ cs.length ≤ 63
theorem Bag.le {n m : Nat} {S} (h : Bag n S) (k : n ≤ m) : Bag m S := by
  obtain ⟨b0, b1, b2, cs, h1, h2, h3, h4, h5, h6, h7⟩ := h
  exact ⟨b0, b1, b2, cs, h1, h2, h3, h4, h5, by omega, h7⟩
theorem head_cell (S : List Ob) (cs : List Int) (b2 : Int) (h0 : 0 ≤ b2) (hc : ∀ c ∈ cs, 0 ≤ c) (hl : cs.length ≤ 63) :
    ∃ (c : Int) (ys : List D), fAdd S (.list (cutD (cs.map PyData.int) (some b2) none)) (.list [.int 0]) = some (.fl ys) ∧ nthD ys 0 = some (.int c) ∧ 0 ≤ c := by
  obtain ⟨m, rfl⟩ := Int.eq_ofNat_of_zero_le h0
  have e : cutD (cs.map PyData.int) (some (m : Int)) none = (cs.drop m).map PyData.int := by
    show ((cs.map PyData.int).drop (HT.sIx _ 0 (some (m : Int)))).take ((cs.map PyData.int).length - HT.sIx _ 0 (some (m : Int))) = _
    rw [HT.sIx_nat, List.length_map, ← List.map_drop, ← List.map_take]
    congr 1
    rw [List.take_of_length_le (by simp)]
    by_cases z : m ≤ cs.length
    · rw [Nat.min_eq_left z]
    · rw [Nat.min_eq_right (by omega), List.drop_length, List.drop_eq_nil_of_le (by omega)]
  rw [e]
  have hl2 : ((cs.drop m).map PyData.int).length + [PyData.int 0].length ≤ 1000000 := by simp; omega
  rcases hd : cs.drop m with _ | ⟨c, r⟩
  · exact ⟨0, [.int 0], rfl, rfl, by omega⟩
  · refine ⟨c, (.int c :: r.map PyData.int) ++ [.int 0], ?_, rfl, hc c (List.mem_of_mem_drop (by rw [hd]; exact List.mem_cons_self ..))⟩
    rw [hd] at hl2
    exact e_addL S _ _ hl2
abbrev bagR : D := .dict [(.dict [], .int 0)]
def wTail (call : Calls) : St' := (sSeq (sIf (tB (cOp2 fGt (.val (cOp2 fIx (.var 0) (.val (cC (.int (0)))))) (.val (cC (.int (0)))))) (sSeq (sAsg (gNm 4 .own) (cOp2 fMod (.val (cOp1 fInt1 (.val (cOp2 fIx (.var 0) (.val (cC (.int (0)))))))) (.var 1))) (sSeq (sAsg (gSet 0 (cC (.int (0)))) (cOp2 fDiv (.val (cOp1 fInt1 (.val (cOp2 fIx (.var 0) (.val (cC (.int (0)))))))) (.var 1))) (sRetV 4))) sNil) (sSeq (sAsg (gNm 5 .own) (cOp2 fMod (.val (cOp1 fInt1 (.val (cOp2 fMul (.val (cOp2 fAdd (.val (cOp2 fIx (.var 0) (.val (cC (.int (1)))))) (.val (cC (.int (1)))))) (.val (cC (.int (39373)))))))) (.val (cC (.int (1000000007)))))) (sSeq (sAsg (gNm 6 .own) (cOp2 fMod (.val (cOp1 fInt1 (.val (cOp2 fMul (.val (cOp2 fMod (.val (cOp1 fInt1 (.val (cOp2 fMul (.var 5) (.var 5))))) (.val (cC (.int (998244353)))))) (.val (cC (.int (30011)))))))) (.val (cC (.int (998244353)))))) (sRet (cOp2 fMod (.val (cOp1 fInt1 (.val (cOp2 fDiv (.var 6) (.val (cC (.int (7)))))))) (.var 1))))))
local macro_rules | `(tactic| walk_at "t1") => `(tactic| try simp (disch := (first | omega | (simp only [List.length_cons, List.length_nil] <;> omega) | fail)) only [e_sNil, e_sSeq, e_sRet, e_sRetN, e_sBrk, e_sCnt, e_sRetV, e_sIf, e_sDrop, e_sAsg, e_sAsg2, e_sPar2, e_sPar3, e_sFor, fornx_nx, fornx_ct, fornx_bk, fornx_rt, e_forL_nil, e_forL_cons, e_gOwn, e_gVal, e_gShare0, e_gsNil, e_gsCons, e_gTpT, e_gTpL, e_gTpF, e_cC, e_vl, e_cVar, e_firstVar, e_firstVal, e_lateVar, e_lateVal, e_cOp1, e_cOp2, e_aNil, e_aCons, e_aStar, e_cTup, e_cLst, e_cCall, e_cCallV, e_fnOf, e_fnOf_, e_cIf, e_tB, e_tTru, e_cNotM, e_tNotM, e_tru1, e_cAnd1, e_cAnd2, e_cOr1, e_cOr2, e_tAnd1, e_tAnd2, e_tOr1, e_tOr2, e_tYes, e_optN, e_optS, e_cCut, e_cTab, e_iVal, e_iVar, e_seqL, e_seqT, e_iRange1, e_iRange2, e_intO, e_strO, e_iZipM, e_zipL, e_zipT, e_pairs, e_pairs0, e_cLc, e_lcN, e_lcC, e_cLc2, e_loN, e_loC, e_cMt1, e_fFlIf, e_fSIf, e_cMt0, e_gSet, e_sAugS, e_lstAt, e_lstFl, e_lstRef0, e_putAt, putO_fl, putO_ref0, e_endRt, e_endNx, le_lim, lt_lim, e_add, e_addT, e_addL, e_sub, e_mul, e_div, e_mod, e_lt, e_le, e_gt, e_ge, e_abs, e_neg, e_int1, e_addI, e_subI, e_truB, e_truI, e_truL, e_truT, e_itT, e_itL, e_lenT, e_lenL, e_tupT, e_tupL, e_appd, e_eqI, e_neI, e_eqS, e_eqB, e_neB, nthD_0, nthD_s, e_ixT, e_ixL, e_ixT0, e_ixT1, e_ixT2, e_ixT3, e_ixT4, e_ixT5, e_ixT6, e_ixT7, e_ixL0, e_ixL1, e_ixL2, e_ixL3, e_ixL4, e_ixL5, e_ixL6, e_ixL7, e_ixR00, e_ixR01, e_ixR02, e_ixR03, e_map, e_atI0, e_atI1, e_atI2, e_atI3, e_ixN0, e_ixN1, e_ixN2, e_ixN3, cut_from0, cut_from1, cut_from2, cut_from3, cut_to0, cut_to1, cut_to2, cut_to3, e_cutT, e_cutL, hide_d, wipe_n, wipe_c, hideG_d, hideG_o, hideG_n, e_kRet, e_kNx, e_kAsg, e_kAsg2b, e_kAsg2, e_kPar2c, e_kPar2b, e_kPar2a, e_kPar3d, e_kPar3c, e_kPar3b, e_kPar3a, e_kFor, e_kForB, e_kAugC, e_kAugB, e_kRetV, e_kToD, e_kFv, e_kOk, e_kOp1c, e_kOp1, e_kOp2d, e_kOp2c, e_kOp2b, e_kOp2a, e_kConsB, e_kCons, e_kStarC, e_kStarB, e_kStarA, e_kStar, e_kTup, e_kLst, e_kCall, e_kCallVB, e_kCallV, e_kOkB, e_kTruB, e_kTru, e_kNotM, e_kTNot, e_kTru1B, e_kTru1, e_kOptB, e_kOpt, e_kCutD, e_kCutC, e_kCutB, e_kCut, e_kOkD, e_kTabB, e_kTab, e_kOkL, e_kIVal, e_kRg1B, e_kRg1, e_kRg2D, e_kRg2C, e_kRg2B, e_kRg2, e_kZipB, e_kZip, e_kLc, e_kLcA, e_kLc2, e_kLoD, e_kLoC, e_kLoA, e_kMtC, e_kMtB, e_kMtA, e_kMt0, e_kSetD, e_kSetC, e_kSetB, e_kSetA, e_kAsG, e_kAsF, e_kAsE, e_kAsD, e_kAsC, e_kAsB, e_kAsA, e_kAs, e_kGs, e_kIfS1, e_kIfS0, cvG_d, cvG_fl, e_kIfE1, e_kIfE0, e_kTB, e_kAndE1, e_kAndE0, e_kOrE1, e_kOrE0, e_ktAnd1, e_ktAnd0, e_ktOr1, e_ktOr0, ivG_fl, ivG_l, ivG_t, e_kLcC, e_kLcB1, e_kLcB0, RcO_ok, e_kLoB1, e_kLoB0, slotO_0, slotO_s, set_0, set_s, ofO_some, ofOF_some, ofRc_ok, RcB_ok, bind_ok, fl_ok, Fl.seq_nx, Fl.seq_rt, Fl.seq_bk, Fl.seq_ct, toD_d, toD_fl, p1018, p1012, p109, cDivS, cModP, Int.reduceMod, Int.reduceSub, Int.reduceAdd, Int.reduceNeg, Int.reduceLT, Int.reduceLE, Int.reduceEq, Int.reduceMul, Int.reduceDiv, List.length_cons, List.length_nil, Nat.reduceAdd, Nat.reduceLT, Nat.reduceLeDiff, Nat.reduceEqDiff, if_true, if_false, Bool.false_eq_true, reduceIte, reduceCtorEq, Nat.zero_lt_succ, Option.bind_some, Option.map_some, Option.isSome_some, List.cons_append, List.nil_append, decide_true, decide_false, Bool.not_true, Bool.not_false, List.isEmpty_nil, List.isEmpty_cons, Nat.zero_add, List.map_cons, List.map_nil, List.drop_succ_cons, List.drop_zero, List.take_succ_cons, List.take_zero, cMulS, e_atI2])
theorem sq_le {x : Int} (h0 : 0 ≤ x) (h : x < 1000000007) : -1152921504606846976 ≤ x * x ∧ x * x ≤ 1152921504606846976 := by
  have h1 := Int.mul_nonneg h0 h0
  have h2 := Int.mul_le_mul (show x ≤ 1000000006 by omega) (show x ≤ 1000000006 by omega) h0 (by omega)
  omega
theorem tail_s (call : Calls) (o2 o3 : Option GV) (many : Int) (hm : 0 < many) (hm2 : many ≤ 1152921504606846976) (n : Nat) (b0 b1 b2 : Int) (cs : List Int) (h1 : 0 ≤ b0) (h2 : 0 ≤ b1) (h3 : b1 < 2147483647) (h4 : 0 ≤ b2) (h5 : b2 ≤ n) (h6 : ∀ c ∈ cs, 0 ≤ c) (h7 : cs.length ≤ 63) :
    ∃ v S', endRc (wTail call ⟨[some (.d (.dict [(.dict [], .int 0)])), some (.d (.int many)), o2, o3, none, none, none], [.lst [.int b0, .int b1, .int b2, .list (cs.map PyData.int)]]⟩) = .ok (.d (.int v)) S' ∧ 0 ≤ v ∧ v < many ∧ Bag n S' := by
  unfold wTail
  by_cases z : 0 < b0
  · refine ⟨b0 % many, [.lst [.int (b0 / many), .int b1, .int b2, .list (cs.map PyData.int)]], ?_, Int.emod_nonneg _ (by omega), Int.emod_lt_of_pos _ hm, b0 / many, b1, b2, cs, rfl, Int.ediv_nonneg h1 (by omega), h2, h3, h4, h5, h6, h7⟩
    walk_at "t1"
    simp only [z, decide_true]
    walk_at "t1"
  · have y1 : 0 ≤ (b1 + 1) * 39373 % 1000000007 := Int.emod_nonneg _ (by omega)
    have y2 : (b1 + 1) * 39373 % 1000000007 < 1000000007 := Int.emod_lt_of_pos _ (by omega)
    generalize e1 : (b1 + 1) * 39373 % 1000000007 = y at y1 y2
    have w1 := sq_le y1 y2
    have y3 : 0 ≤ y * y % 998244353 := Int.emod_nonneg _ (by omega)
    have y4 : y * y % 998244353 < 998244353 := Int.emod_lt_of_pos _ (by omega)
    generalize e2 : y * y % 998244353 = u at y3 y4
    refine ⟨u * 30011 % 998244353 / 7 % many, [.lst [.int b0, .int b1, .int b2, .list (cs.map PyData.int)]], ?_, Int.emod_nonneg _ (by omega), Int.emod_lt_of_pos _ hm, b0, b1, b2, cs, rfl, h1, h2, h3, h4, h5, h6, h7⟩
    walk_at "t1"
    simp only [z, decide_false]
    walk_at "t1"
    simp only [e1]
    walk_at "t1"
    simp only [cMulS (i := y) (j := y) (by omega) (by omega), e2, if_true]
    walk_at "t1"
local macro_rules | `(tactic| walk_at "t2") => `(tactic| try simp (disch := (first | omega | (simp only [List.length_cons, List.length_nil] <;> omega) | fail)) only [e_sNil, e_sSeq, e_sRet, e_sRetN, e_sBrk, e_sCnt, e_sRetV, e_sIf, e_sDrop, e_sAsg, e_sAsg2, e_sPar2, e_sPar3, e_sFor, fornx_nx, fornx_ct, fornx_bk, fornx_rt, e_forL_nil, e_forL_cons, e_gOwn, e_gVal, e_gShare0, e_gsNil, e_gsCons, e_gTpT, e_gTpL, e_gTpF, e_cC, e_vl, e_cVar, e_firstVar, e_firstVal, e_lateVar, e_lateVal, e_cOp1, e_cOp2, e_aNil, e_aCons, e_aStar, e_cTup, e_cLst, e_cCall, e_cCallV, e_fnOf, e_fnOf_, e_cIf, e_tB, e_tTru, e_cNotM, e_tNotM, e_tru1, e_cAnd1, e_cAnd2, e_cOr1, e_cOr2, e_tAnd1, e_tAnd2, e_tOr1, e_tOr2, e_tYes, e_optN, e_optS, e_cCut, e_cTab, e_iVal, e_iVar, e_seqL, e_seqT, e_iRange1, e_iRange2, e_intO, e_strO, e_iZipM, e_zipL, e_zipT, e_pairs, e_pairs0, e_cLc, e_lcN, e_lcC, e_cLc2, e_loN, e_loC, e_cMt1, e_fFlIf, e_fSIf, e_cMt0, e_gSet, e_sAugS, e_lstAt, e_lstFl, e_lstRef0, e_putAt, putO_fl, putO_ref0, e_endRt, e_endNx, le_lim, lt_lim, e_add, e_addT, e_addL, e_sub, e_mul, e_div, e_mod, e_lt, e_le, e_gt, e_ge, e_abs, e_neg, e_int1, e_addI, e_subI, e_truB, e_truI, e_truL, e_truT, e_itT, e_itL, e_lenT, e_lenL, e_tupT, e_tupL, e_appd, e_eqI, e_neI, e_eqS, e_eqB, e_neB, nthD_0, nthD_s, e_ixT, e_ixL, e_ixT0, e_ixT1, e_ixT2, e_ixT3, e_ixT4, e_ixT5, e_ixT6, e_ixT7, e_ixL0, e_ixL1, e_ixL2, e_ixL3, e_ixL4, e_ixL5, e_ixL6, e_ixL7, e_ixR00, e_ixR01, e_ixR02, e_ixR03, e_map, e_atI0, e_atI1, e_atI2, e_atI3, e_ixN0, e_ixN1, e_ixN2, e_ixN3, cut_from0, cut_from1, cut_from2, cut_from3, cut_to0, cut_to1, cut_to2, cut_to3, e_cutT, e_cutL, hide_d, wipe_n, wipe_c, hideG_d, hideG_o, hideG_n, e_kRet, e_kNx, e_kAsg, e_kAsg2b, e_kAsg2, e_kPar2c, e_kPar2b, e_kPar2a, e_kPar3d, e_kPar3c, e_kPar3b, e_kPar3a, e_kFor, e_kForB, e_kAugC, e_kAugB, e_kRetV, e_kToD, e_kFv, e_kOk, e_kOp1c, e_kOp1, e_kOp2d, e_kOp2c, e_kOp2b, e_kOp2a, e_kConsB, e_kCons, e_kStarC, e_kStarB, e_kStarA, e_kStar, e_kTup, e_kLst, e_kCall, e_kCallVB, e_kCallV, e_kOkB, e_kTruB, e_kTru, e_kNotM, e_kTNot, e_kTru1B, e_kTru1, e_kOptB, e_kOpt, e_kCutD, e_kCutC, e_kCutB, e_kCut, e_kOkD, e_kTabB, e_kTab, e_kOkL, e_kIVal, e_kRg1B, e_kRg1, e_kRg2D, e_kRg2C, e_kRg2B, e_kRg2, e_kZipB, e_kZip, e_kLc, e_kLcA, e_kLc2, e_kLoD, e_kLoC, e_kLoA, e_kMtC, e_kMtB, e_kMtA, e_kMt0, e_kSetD, e_kSetC, e_kSetB, e_kSetA, e_kAsG, e_kAsF, e_kAsE, e_kAsD, e_kAsC, e_kAsB, e_kAsA, e_kAs, e_kGs, e_kIfS1, e_kIfS0, cvG_d, cvG_fl, e_kIfE1, e_kIfE0, e_kTB, e_kAndE1, e_kAndE0, e_kOrE1, e_kOrE0, e_ktAnd1, e_ktAnd0, e_ktOr1, e_ktOr0, ivG_fl, ivG_l, ivG_t, e_kLcC, e_kLcB1, e_kLcB0, RcO_ok, e_kLoB1, e_kLoB0, slotO_0, slotO_s, set_0, set_s, ofO_some, ofOF_some, ofRc_ok, RcB_ok, bind_ok, fl_ok, Fl.seq_nx, Fl.seq_rt, Fl.seq_bk, Fl.seq_ct, toD_d, toD_fl, p1018, p1012, p109, cDivS, cModP, Int.reduceMod, Int.reduceSub, Int.reduceAdd, Int.reduceNeg, Int.reduceLT, Int.reduceLE, Int.reduceEq, Int.reduceMul, Int.reduceDiv, List.length_cons, List.length_nil, Nat.reduceAdd, Nat.reduceLT, Nat.reduceLeDiff, Nat.reduceEqDiff, if_true, if_false, Bool.false_eq_true, reduceIte, reduceCtorEq, Nat.zero_lt_succ, Option.bind_some, Option.map_some, Option.isSome_some, List.cons_append, List.nil_append, decide_true, decide_false, Bool.not_true, Bool.not_false, List.isEmpty_nil, List.isEmpty_cons, Nat.zero_add, List.map_cons, List.map_nil, List.drop_succ_cons, List.drop_zero, List.take_succ_cons, List.take_zero, cMulS, e_atI2])
theorem take_s (k : Nat) (many : Int) (hm : 0 < many) (hm2 : many ≤ 1152921504606846976) (n : Nat) (hn : n ≤ 1000000) (S : List Ob) (hb : Bag n S) :
    ∃ v S', callN pg (k + 1) 62 [.dict [(.dict [], .int 0)], .int many] S = .ok (.d (.int v)) S' ∧ 0 ≤ v ∧ v < many ∧ Bag (n + 1) S' := by
  obtain ⟨b0, b1, b2, cs, rfl, h1, h2, h3, h4, h5, h6, h7⟩ := hb
  rw [c62]
  unfold b62
  rw [e_sSeq]
  by_cases z : b0 = 0
  · subst z
    obtain ⟨c, ys, q1, q2, q3⟩ := head_cell [.lst [.int 0, .int b1, .int b2, .list (cs.map PyData.int)]] cs b2 h4 h6 h7
    have y1 : 0 ≤ c % 2147483647 := Int.emod_nonneg _ (by omega)
    have y2 : c % 2147483647 < 2147483647 := Int.emod_lt_of_pos _ (by omega)
    generalize e1 : c % 2147483647 = y at y1 y2
    generalize hw : (b1 * 48271 + y + 7919 * (b2 + 1)) % 2147483647 = w
    have w1 : 0 ≤ w := by rw [← hw]; exact Int.emod_nonneg _ (by omega)
    have w2 : w < 2147483647 := by rw [← hw]; exact Int.emod_lt_of_pos _ (by omega)
    by_cases z2 : 1000000000000000000 ≤ c
    · obtain ⟨v, S', g1, g2, g3, g4⟩ := tail_s (callN pg k) (some (.d (.int c))) (some (.d (.int (b1 * 48271 + y + 7919 * (b2 + 1))))) many hm hm2 (n + 1) c w (b2 + 1) cs q3 w1 w2 (by omega) (by omega) h6 h7
      refine ⟨v, S', ?_, g2, g3, g4⟩
      rw [← g1]
      unfold wTail
      walk_at "t2"
      simp only [q1, q2]
      walk_at "t2"
      simp only [q1, q2]
      walk_at "t2"
      simp only [z2, decide_true]
      walk_at "t2"
      simp only [e1]
      walk_at "t2"
      simp only [hw]
    · obtain ⟨v, S', g1, g2, g3, g4⟩ := tail_s (callN pg k) (some (.d (.int c))) (some (.d (.int (b1 * 48271 + y + 7919 * (b2 + 1))))) many hm hm2 (n + 1) 0 w (b2 + 1) cs (by omega) w1 w2 (by omega) (by omega) h6 h7
      refine ⟨v, S', ?_, g2, g3, g4⟩
      rw [← g1]
      unfold wTail
      walk_at "t2"
      simp only [q1, q2]
      walk_at "t2"
      simp only [q1, q2]
      walk_at "t2"
      simp only [z2, decide_false]
      walk_at "t2"
      simp only [e1]
      walk_at "t2"
      simp only [hw]
  · obtain ⟨v, S', g1, g2, g3, g4⟩ := tail_s (callN pg k) none none many hm hm2 (n + 1) b0 b1 b2 cs h1 h2 h3 h4 (by omega) h6 h7
    refine ⟨v, S', ?_, g2, g3, g4⟩
    rw [← g1]
    unfold wTail
    walk_at "t2"
    simp only [z, decide_false]
    walk_at "t2"
end K03


set_option Elab.async false
set_option linter.all false
set_option linter.unusedSimpArgs false
set_option exponentiation.threshold 20000
set_option maxRecDepth 100000
set_option maxHeartbeats 4000000
namespace K03
open PySem PySem.Spec L2 Mi
/-! KS7: what is drawn. -/
theorem bag_loop (o : GV) (S : List Ob) : ∀ (ns : List Int) (acc : List D), acc.length + ns.length ≤ 1000 →
    lcL (gNm 2 .val) tYesM (cOp1 fAbs (.var 2)) [some (.d (dFar [])), none, none] [] [] S = lcL (gNm 2 .val) tYesM (cOp1 fAbs (.var 2)) [some (.d (dFar [])), none, none] [] [] S := fun _ _ _ => rfl
local macro_rules | `(tactic| walk_at "u1") => `(tactic| try simp (disch := (first | omega | (simp only [List.length_cons, List.length_nil] <;> omega) | fail)) only [e_sNil, e_sSeq, e_sRet, e_sRetN, e_sBrk, e_sCnt, e_sRetV, e_sIf, e_sDrop, e_sAsg, e_sAsg2, e_sPar2, e_sPar3, e_sFor, fornx_nx, fornx_ct, fornx_bk, fornx_rt, e_forL_nil, e_forL_cons, e_gOwn, e_gVal, e_gShare0, e_gsNil, e_gsCons, e_gTpT, e_gTpL, e_gTpF, e_cC, e_vl, e_cVar, e_firstVar, e_firstVal, e_lateVar, e_lateVal, e_cOp1, e_cOp2, e_aNil, e_aCons, e_aStar, e_cTup, e_cLst, e_cCall, e_cCallV, e_fnOf, e_fnOf_, e_cIf, e_tB, e_tTru, e_cNotM, e_tNotM, e_tru1, e_cAnd1, e_cAnd2, e_cOr1, e_cOr2, e_tAnd1, e_tAnd2, e_tOr1, e_tOr2, e_tYes, e_optN, e_optS, e_cCut, e_cTab, e_iVal, e_iVar, e_seqL, e_seqT, e_iRange1, e_iRange2, e_intO, e_strO, e_iZipM, e_zipL, e_zipT, e_pairs, e_pairs0, e_cLc, e_lcN, e_lcC, e_cLc2, e_loN, e_loC, e_cMt1, e_fFlIf, e_fSIf, e_cMt0, e_gSet, e_sAugS, e_lstAt, e_lstFl, e_lstRef0, e_putAt, putO_fl, putO_ref0, e_endRt, e_endNx, le_lim, lt_lim, e_add, e_addT, e_addL, e_sub, e_mul, e_div, e_mod, e_lt, e_le, e_gt, e_ge, e_abs, e_neg, e_int1, e_addI, e_subI, e_truB, e_truI, e_truL, e_truT, e_itT, e_itL, e_lenT, e_lenL, e_tupT, e_tupL, e_appd, e_eqI, e_neI, e_eqS, e_eqB, e_neB, nthD_0, nthD_s, e_ixT, e_ixL, e_ixT0, e_ixT1, e_ixT2, e_ixT3, e_ixT4, e_ixT5, e_ixT6, e_ixT7, e_ixL0, e_ixL1, e_ixL2, e_ixL3, e_ixL4, e_ixL5, e_ixL6, e_ixL7, e_ixR00, e_ixR01, e_ixR02, e_ixR03, e_map, e_atI0, e_atI1, e_atI2, e_atI3, e_ixN0, e_ixN1, e_ixN2, e_ixN3, cut_from0, cut_from1, cut_from2, cut_from3, cut_to0, cut_to1, cut_to2, cut_to3, e_cutT, e_cutL, hide_d, wipe_n, wipe_c, hideG_d, hideG_o, hideG_n, e_kRet, e_kNx, e_kAsg, e_kAsg2b, e_kAsg2, e_kPar2c, e_kPar2b, e_kPar2a, e_kPar3d, e_kPar3c, e_kPar3b, e_kPar3a, e_kFor, e_kForB, e_kAugC, e_kAugB, e_kRetV, e_kToD, e_kFv, e_kOk, e_kOp1c, e_kOp1, e_kOp2d, e_kOp2c, e_kOp2b, e_kOp2a, e_kConsB, e_kCons, e_kStarC, e_kStarB, e_kStarA, e_kStar, e_kTup, e_kLst, e_kCall, e_kCallVB, e_kCallV, e_kOkB, e_kTruB, e_kTru, e_kNotM, e_kTNot, e_kTru1B, e_kTru1, e_kOptB, e_kOpt, e_kCutD, e_kCutC, e_kCutB, e_kCut, e_kOkD, e_kTabB, e_kTab, e_kOkL, e_kIVal, e_kRg1B, e_kRg1, e_kRg2D, e_kRg2C, e_kRg2B, e_kRg2, e_kZipB, e_kZip, e_kLc, e_kLcA, e_kLc2, e_kLoD, e_kLoC, e_kLoA, e_kMtC, e_kMtB, e_kMtA, e_kMt0, e_kSetD, e_kSetC, e_kSetB, e_kSetA, e_kAsG, e_kAsF, e_kAsE, e_kAsD, e_kAsC, e_kAsB, e_kAsA, e_kAs, e_kGs, e_kIfS1, e_kIfS0, cvG_d, cvG_fl, e_kIfE1, e_kIfE0, e_kTB, e_kAndE1, e_kAndE0, e_kOrE1, e_kOrE0, e_ktAnd1, e_ktAnd0, e_ktOr1, e_ktOr0, ivG_fl, ivG_l, ivG_t, e_kLcC, e_kLcB1, e_kLcB0, RcO_ok, e_kLoB1, e_kLoB0, slotO_0, slotO_s, set_0, set_s, ofO_some, ofOF_some, ofRc_ok, RcB_ok, bind_ok, fl_ok, Fl.seq_nx, Fl.seq_rt, Fl.seq_bk, Fl.seq_ct, toD_d, toD_fl, beq_self_eq_true, eq_self, p1018, p1012, p109, cDivS, cModP, Int.reduceMod, Int.reduceSub, Int.reduceAdd, Int.reduceNeg, Int.reduceLT, Int.reduceLE, Int.reduceEq, Int.reduceMul, Int.reduceDiv, List.length_cons, List.length_nil, Nat.reduceAdd, Nat.reduceLT, Nat.reduceLeDiff, Nat.reduceEqDiff, if_true, if_false, Bool.false_eq_true, reduceIte, reduceCtorEq, Nat.zero_lt_succ, Option.bind_some, Option.map_some, Option.isSome_some, List.cons_append, List.nil_append, decide_true, decide_false, Bool.not_true, Bool.not_false, List.isEmpty_nil, List.isEmpty_cons, Nat.zero_add, List.map_cons, List.map_nil, List.drop_succ_cons, List.drop_zero, List.take_succ_cons, List.take_zero, cMulS])
theorem bag_go (x : D) (S : List Ob) : ∀ (ns : List Int) (acc : List D), acc.length + ns.length ≤ 1000 →
    lcL (gNm 2 .val) tYesM (cOp1 fAbs (.var 2)) [some (.d x), none, none] (ns.map PyData.int) acc S = .ok (.fl (acc ++ (ns.map fun n => PyData.int (n.natAbs : Int)))) S
  | [], acc, h => by
    walk_at "u1"
    simp only [List.append_nil]
  | n :: ns, acc, h => by
    rw [List.length_cons] at h
    have ih := bag_go x S ns (acc ++ [.int (n.natAbs : Int)]) (by rw [List.length_append]; simp only [List.length_cons, List.length_nil]; omega)
    walk_at "u1"
    simp only [absI]
    rw [ih, List.append_assoc]
    rfl
theorem bag_s (k : Nat) (ns : List Int) (h : ns.length ≤ 63) (S : List Ob) : callN pg (k + 1) 61 [dFar (ns.map PyData.int)] S = .ok (.fl [.int 0, .int 1234567891, .int 0, .list (ns.map fun n => PyData.int (n.natAbs : Int))]) S := by
  have hc : fCut S (dFar (ns.map PyData.int)) none (some 63) = some (.fl (ns.map PyData.int)) := by
    show some (GV.fl (cutD _ _ _)) = _
    rw [show (63 : Int) = ((63 : Nat) : Int) from rfl]
    unfold cutD
    simp only [HT.sIx_nat, HT.sIx_none]
    rw [List.drop_zero, List.take_of_length_le (by simp; omega)]
  have hg := bag_go (dFar (ns.map PyData.int)) S ns [] (by simp; omega)
  rw [c61]; unfold b61
  walk_at "u1"
  simp only [hc]
  walk_at "u1"
  rw [hg]
  walk_at "u1"
theorem nth_lt : ∀ (xs : List D) (i : Nat), i < xs.length → ∃ x ∈ xs, nthD xs i = some x
  | [], i, h => by simp at h
  | x :: xs, 0, h => ⟨x, List.mem_cons_self .., rfl⟩
  | x :: xs, i + 1, h => by
    obtain ⟨y, h1, h2⟩ := nth_lt xs i (by simpa using h)
    exact ⟨y, List.mem_cons_of_mem _ h1, h2⟩
theorem ix_any (S : List Ob) (xs : List D) (v : Int) (h0 : 0 ≤ v) (h : v < xs.length) : ∃ x ∈ xs, fIx S (.list xs) (.int v) = some (.d x) := by
  obtain ⟨i, rfl⟩ := Int.eq_ofNat_of_zero_le h0
  obtain ⟨x, h1, h2⟩ := nth_lt xs i (by omega)
  exact ⟨x, h1, by rw [e_ixL, h2]; rfl⟩
theorem some_s (k : Nat) (xs : List D) (h0 : 0 < xs.length) (hl : xs.length ≤ 1000) (n : Nat) (hn : n ≤ 1000000) (S : List Ob) (hb : Bag n S) :
    ∃ x S', x ∈ xs ∧ callN pg (k + 2) 63 [.dict [(.dict [], .int 0)], .list xs] S = .ok (.d x) S' ∧ Bag (n + 1) S' := by
  obtain ⟨v, S', g1, g2, g3, g4⟩ := take_s k (xs.length : Int) (by omega) (by omega) n hn S hb
  obtain ⟨x, m1, m2⟩ := ix_any S' xs v g2 g3
  refine ⟨x, S', m1, ?_, g4⟩
  rw [c63]; unfold b63
  walk_at "u1"
  rw [g1]
  walk_at "u1"
  rw [m2]
  walk_at "u1"
theorem lpart_s (k : Nat) (n : Nat) (hn : n ≤ 500000) (S : List Ob) (hb : Bag n S) :
    ∃ q S', callN pg (k + 3) 77 [.dict [(.dict [], .int 0)]] S = .ok (.d (fr q)) S' ∧ Bt q 41 ∧ Bag (n + 5) S' := by
  obtain ⟨x1, S1, m1, g1, b1⟩ := some_s k [.int 4, .int 9, .int 100, .int 1000000000000] (by simp) (by simp) n (by omega) S hb
  obtain ⟨m, rfl, h1, h2⟩ : ∃ m : Int, x1 = .int m ∧ 0 < m ∧ m ≤ 1000000000000 := by
    simp only [List.mem_cons, List.not_mem_nil, or_false] at m1
    rcases m1 with rfl | rfl | rfl | rfl <;> exact ⟨_, rfl, by omega, by omega⟩
  obtain ⟨v, S2, g2, v0, v1, b2⟩ := take_s (k + 1) m h1 (by omega) (n + 1) (by omega) S1 b1
  obtain ⟨s, S3, g3, s0, s1, b3⟩ := take_s (k + 1) 2 (by omega) (by omega) (n + 2) (by omega) S2 b2
  obtain ⟨x4, S4, m4, g4, b4⟩ := some_s k [.int 1, .int 4, .int 9, .int 1000000000] (by simp) (by simp) (n + 3) (by omega) S3 b3
  obtain ⟨d, rfl, d1, d2⟩ : ∃ m : Int, x4 = .int m ∧ 0 < m ∧ m ≤ 1000000000 := by
    simp only [List.mem_cons, List.not_mem_nil, or_false] at m4
    rcases m4 with rfl | rfl | rfl | rfl <;> exact ⟨_, rfl, by omega, by omega⟩
  obtain ⟨u, S5, g5, u0, u1, b5⟩ := take_s (k + 1) d d1 (by omega) (n + 4) (by omega) S4 b4
  obtain ⟨w, hw⟩ := Int.eq_ofNat_of_zero_le (show 0 ≤ 1 + u by omega)
  have hw' : 1 + u = (w : Int) := hw
  have w1 : w ≠ 0 := by omega
  refine ⟨mkRat (if s = 0 then v else -v) w, S5, ?_, .mk_ w1 (by split <;> omega) (by omega), b5⟩
  rw [c77]; unfold b77
  walk_at "u1"
  rw [g1]
  walk_at "u1"
  rw [g2]
  walk_at "u1"
  rw [g3]
  walk_at "u1"
  have e : ∀ (t : T), kIfE (cVar 1) (cOp1 fNeg (.var 1)) (decide (s = 0)) ⟨[some (.d (.dict [(.dict [], .int 0)])), some (.d (.int v))], S3⟩ = .ok (.d (.int (if s = 0 then v else -v))) ⟨[some (.d (.dict [(.dict [], .int 0)])), some (.d (.int v))], S3⟩ := fun _ => by
    by_cases z : s = 0 <;> simp only [z, decide_true, decide_false, if_true, if_false] <;> walk_at "u1"
  rw [e ⟨[], []⟩]
  walk_at "u1"
  rw [g4]
  walk_at "u1"
  rw [g5]
  walk_at "u1"
  rw [hw', lmade_s _ _ w S5 w1 (by omega)]
  walk_at "u1"
local macro_rules | `(tactic| walk_at "u2") => `(tactic| try simp (disch := (first | omega | (simp only [List.length_cons, List.length_nil] <;> omega) | fail)) only [e_sNil, e_sSeq, e_sRet, e_sRetN, e_sBrk, e_sCnt, e_sRetV, e_sIf, e_sDrop, e_sAsg, e_sAsg2, e_sPar2, e_sPar3, e_sFor, fornx_nx, fornx_ct, fornx_bk, fornx_rt, e_forL_nil, e_forL_cons, e_gOwn, e_gVal, e_gShare0, e_gsNil, e_gsCons, e_gTpT, e_gTpL, e_gTpF, e_cC, e_vl, e_cVar, e_firstVar, e_firstVal, e_lateVar, e_lateVal, e_cOp1, e_cOp2, e_aNil, e_aCons, e_aStar, e_cTup, e_cLst, e_cCall, e_cCallV, e_fnOf, e_fnOf_, e_cIf, e_tB, e_tTru, e_cNotM, e_tNotM, e_tru1, e_cAnd1, e_cAnd2, e_cOr1, e_cOr2, e_tAnd1, e_tAnd2, e_tOr1, e_tOr2, e_tYes, e_optN, e_optS, e_cCut, e_cTab, e_iVal, e_iVar, e_seqL, e_seqT, e_iRange1, e_iRange2, e_intO, e_strO, e_iZipM, e_zipL, e_zipT, e_pairs, e_pairs0, e_cLc, e_lcN, e_lcC, e_cLc2, e_loN, e_loC, e_cMt1, e_fFlIf, e_fSIf, e_cMt0, e_gSet, e_sAugS, e_lstAt, e_lstFl, e_lstRef0, e_putAt, putO_fl, putO_ref0, e_endRt, e_endNx, le_lim, lt_lim, e_add, e_addT, e_addL, e_sub, e_mul, e_div, e_mod, e_lt, e_le, e_gt, e_ge, e_abs, e_neg, e_int1, e_addI, e_subI, e_truB, e_truI, e_truL, e_truT, e_itT, e_itL, e_lenT, e_lenL, e_tupT, e_tupL, e_appd, e_eqI, e_neI, e_eqS, e_eqB, e_neB, nthD_0, nthD_s, e_ixT, e_ixL, e_ixT0, e_ixT1, e_ixT2, e_ixT3, e_ixT4, e_ixT5, e_ixT6, e_ixT7, e_ixL0, e_ixL1, e_ixL2, e_ixL3, e_ixL4, e_ixL5, e_ixL6, e_ixL7, e_ixR00, e_ixR01, e_ixR02, e_ixR03, e_map, e_atI0, e_atI1, e_atI2, e_atI3, e_ixN0, e_ixN1, e_ixN2, e_ixN3, cut_from0, cut_from1, cut_from2, cut_from3, cut_to0, cut_to1, cut_to2, cut_to3, e_cutT, e_cutL, hide_d, wipe_n, wipe_c, hideG_d, hideG_o, hideG_n, e_kRet, e_kNx, e_kAsg, e_kAsg2b, e_kAsg2, e_kPar2c, e_kPar2b, e_kPar2a, e_kPar3d, e_kPar3c, e_kPar3b, e_kPar3a, e_kFor, e_kForB, e_kAugC, e_kAugB, e_kRetV, e_kToD, e_kFv, e_kOk, e_kOp1c, e_kOp1, e_kOp2d, e_kOp2c, e_kOp2b, e_kOp2a, e_kConsB, e_kCons, e_kStarC, e_kStarB, e_kStarA, e_kStar, e_kTup, e_kLst, e_kCall, e_kCallVB, e_kCallV, e_kOkB, e_kTruB, e_kTru, e_kNotM, e_kTNot, e_kTru1B, e_kTru1, e_kOptB, e_kOpt, e_kCutD, e_kCutC, e_kCutB, e_kCut, e_kOkD, e_kTabB, e_kTab, e_kOkL, e_kIVal, e_kRg1B, e_kRg1, e_kRg2D, e_kRg2C, e_kRg2B, e_kRg2, e_kZipB, e_kZip, e_kLc, e_kLcA, e_kLc2, e_kLoD, e_kLoC, e_kLoA, e_kMtC, e_kMtB, e_kMtA, e_kMt0, e_kSetD, e_kSetC, e_kSetB, e_kSetA, e_kAsG, e_kAsF, e_kAsE, e_kAsD, e_kAsC, e_kAsB, e_kAsA, e_kAs, e_kGs, e_kIfS1, e_kIfS0, cvG_d, cvG_fl, e_kIfE1, e_kIfE0, e_kTB, e_kAndE1, e_kAndE0, e_kOrE1, e_kOrE0, e_ktAnd1, e_ktAnd0, e_ktOr1, e_ktOr0, ivG_fl, ivG_l, ivG_t, e_kLcC, e_kLcB1, e_kLcB0, RcO_ok, e_kLoB1, e_kLoB0, slotO_0, slotO_s, set_0, set_s, ofO_some, ofOF_some, ofRc_ok, RcB_ok, bind_ok, fl_ok, Fl.seq_nx, Fl.seq_rt, Fl.seq_bk, Fl.seq_ct, toD_d, toD_fl, beq_self_eq_true, eq_self, p1018, p1012, p109, cDivS, cModP, Int.reduceMod, Int.reduceSub, Int.reduceAdd, Int.reduceNeg, Int.reduceLT, Int.reduceLE, Int.reduceEq, Int.reduceMul, Int.reduceDiv, List.length_cons, List.length_nil, Nat.reduceAdd, Nat.reduceLT, Nat.reduceLeDiff, Nat.reduceEqDiff, if_true, if_false, Bool.false_eq_true, reduceIte, reduceCtorEq, Nat.zero_lt_succ, Option.bind_some, Option.map_some, Option.isSome_some, List.cons_append, List.nil_append, decide_true, decide_false, Bool.not_true, Bool.not_false, List.isEmpty_nil, List.isEmpty_cons, Nat.zero_add, List.map_cons, List.map_nil, List.drop_succ_cons, List.drop_zero, List.take_succ_cons, List.take_zero, ix_fr0, ix_fr1, fr0, fr1, frm1, ladd_s, lsub_s, lmul_s, lless_s, labs_s, llesser_s, lgreater_s, lmade_s])
theorem lspan_s (k : Nat) (n : Nat) (hn : n ≤ 100000) (S : List Ob) (hb : Bag n S) :
    ∃ a b S', callN pg (k + 4) 78 [.dict [(.dict [], .int 0)]] S = .ok (.d (.tuple [fr a, fr b])) S' ∧ a ≤ b ∧ Bt a 90 ∧ Bt b 90 ∧ Bag (n + 16) S' := by
  obtain ⟨p, S1, g1, t1, b1⟩ := lpart_s k n (by omega) S hb
  obtain ⟨q, S2, g2, t2, b2⟩ := lpart_s k (n + 5) (by omega) S1 b1
  obtain ⟨r, S3, g3, t3, b3⟩ := lpart_s k (n + 10) (by omega) S2 b2
  obtain ⟨x, S4, m4, g4, b4⟩ := some_s (k + 1) [fr p, fr q, fr (p + rabs r), fr 0, fr (p * -1)] (by simp) (by simp) (n + 15) (by omega) S3 b3
  obtain ⟨h, rfl, hB⟩ : ∃ h, x = fr h ∧ Bt h 90 := by
    simp only [List.mem_cons, List.not_mem_nil, or_false] at m4
    rcases m4 with rfl | rfl | rfl | rfl | rfl
    · exact ⟨_, rfl, t1.le (by omega)⟩
    · exact ⟨_, rfl, t2.le (by omega)⟩
    · exact ⟨_, rfl, instBtAdd.le (by omega)⟩
    · exact ⟨_, rfl, instBt0.le (by omega)⟩
    · exact ⟨_, rfl, instBtMul.le (by omega)⟩
  refine ⟨rmin p h, rmax p h, S4, ?_, Rat.le_trans (rmin_le_l p h) (le_rmax_l p h), instBtMin.le (by omega), instBtMax.le (by omega), b4.le (by omega)⟩
  rw [c78]; unfold b78
  walk_at "u2"
  rw [g1]
  walk_at "u2"
  rw [g2]
  walk_at "u2"
  rw [g3]
  walk_at "u2"
  rw [g4]
  walk_at "u2"
theorem linside_s (k : Nat) (a b : Rat) (hab : a ≤ b) [Bt a 90] [Bt b 90] (n : Nat) (hn : n ≤ 100000) (S : List Ob) (hb : Bag n S) :
    ∃ x S', callN pg (k + 3) 79 [.dict [(.dict [], .int 0)], .tuple [fr a, fr b]] S = .ok (.d (fr x)) S' ∧ a ≤ x ∧ x ≤ b ∧ Bt x 300 ∧ Bag (n + 1) S' := by
  obtain ⟨v, S1, g1, v0, v1, b1⟩ := take_s (k + 1) 8 (by omega) (by omega) n (by omega) S hb
  have tB : Bt (mkRat v 7) 10 := .mk_ (by omega) (by omega) (by omega)
  have q0 : 0 ≤ mkRat v 7 := by
    rcases (show v = 0 ∨ v = 1 ∨ v = 2 ∨ v = 3 ∨ v = 4 ∨ v = 5 ∨ v = 6 ∨ v = 7 by omega) with rfl | rfl | rfl | rfl | rfl | rfl | rfl | rfl <;> decide +kernel
  have q1 : mkRat v 7 ≤ 1 := by
    rcases (show v = 0 ∨ v = 1 ∨ v = 2 ∨ v = 3 ∨ v = 4 ∨ v = 5 ∨ v = 6 ∨ v = 7 by omega) with rfl | rfl | rfl | rfl | rfl | rfl | rfl | rfl <;> decide +kernel
  have hd : 0 ≤ b - a := by grind
  have m0 := Rat.mul_nonneg hd q0
  have m1 := Rat.mul_le_mul_of_nonneg_left q1 hd
  refine ⟨a + (b - a) * mkRat v 7, S1, ?_, by grind, by grind, instBtAdd.le (by omega), b1⟩
  have hs : (7 : Int) = ((7 : Nat) : Int) := rfl
  rw [c79]; unfold b79
  walk_at "u2"
  rw [g1]
  walk_at "u2"
  rw [hs, lmade_s _ _ 7 S1 (by omega) (by omega)]
  walk_at "u2"
end K03


set_option Elab.async false
set_option linter.all false
set_option linter.unusedSimpArgs false
set_option exponentiation.threshold 20000
set_option maxRecDepth 100000
set_option maxHeartbeats 4000000
namespace K03
open PySem PySem.Spec L2 Mi
/-! KS8: alike. -/
def cA : M Bool := (tB (cOp2 fLt (.var 3) (.val (cOp1 fLen (.var 2)))))
def wA : St' := (sSeq (sAsg (gTp 2 (gsCons (gNm 4 .own) (gsCons (gNm 5 .own) gsNil))) (cOp2 fIx (.var 2) (.var 3))) (sSeq (sAug 3 .own fAdd' (cC (.int (1)))) (sSeq (sIf (tOrM [(tB (cOp2 fNe (.val (cOp1 (fIsi ["bool"]) (.var 4))) (.val (cOp1 (fIsi ["bool"]) (.var 5))))), (tB (cOp2 fNe (.val (cOp1 (fIsi ["str"]) (.var 4))) (.val (cOp1 (fIsi ["str"]) (.var 5)))))]) (sRet (cC (.bool false))) sNil) (sSeq (sIf (tB (cOp2 fNe (.val (cOp1 (fIsi ["tuple", "list"]) (.var 4))) (.val (cOp1 (fIsi ["tuple", "list"]) (.var 5))))) (sRet (cC (.bool false))) sNil) (sIf (tTru (.val (cOp1 (fIsi ["tuple", "list"]) (.var 4)))) (sSeq (sIf (tOrM [(tB (cOp2 fNe (.val (cOp1 (fIsi ["tuple"]) (.var 4))) (.val (cOp1 (fIsi ["tuple"]) (.var 5))))), (tB (cOp2 fNe (.val (cOp1 fLen (.var 4))) (.val (cOp1 fLen (.var 5)))))]) (sRet (cC (.bool false))) sNil) (sDrop (cMt1 2 fExtAll (cLZip (aCons (cVar 4) (aCons (cVar 5) aNil)))))) (sIf (tB (cOp2 fNe (.var 4) (.var 5))) (sRet (cC (.bool false))) sNil))))))
def dup (x : D) : D := .tuple [x, x]
mutual
def good : D → Bool
  | .int _ => true
  | .bool _ => true
  | .str _ => true
  | .tuple xs => goodL xs
  | .list xs => goodL xs
  | _ => false
def goodL : List D → Bool
  | [] => true
  | x :: xs => good x && goodL xs
end
mutual
def sz : D → Nat
  | .tuple xs => 1 + szL xs
  | .list xs => 1 + szL xs
  | _ => 1
def szL : List D → Nat
  | [] => 0
  | x :: xs => sz x + szL xs
end
def kids : D → List D
  | .tuple xs => xs
  | .list xs => xs
  | _ => []
theorem szL_app : ∀ (xs ys : List D), szL (xs ++ ys) = szL xs + szL ys
  | [], ys => by simp [szL]
  | x :: xs, ys => by simp only [List.cons_append, szL, szL_app xs ys]; omega
theorem goodL_app : ∀ (xs ys : List D), goodL (xs ++ ys) = (goodL xs && goodL ys)
  | [], ys => by simp [goodL]
  | x :: xs, ys => by simp only [List.cons_append, goodL, goodL_app xs ys, Bool.and_assoc]
theorem sz_kids (x : D) (h : good x = true) : sz x = 1 + szL (kids x) := by
  cases x <;> first | rfl | (simp [good] at h)
theorem good_kids (x : D) (h : good x = true) : goodL (kids x) = true := by
  cases x <;> first | rfl | (simp [good] at h; done) | (simpa [good, kids] using h)
theorem len_szL : ∀ xs : List D, goodL xs = true → xs.length ≤ szL xs
  | [], _ => by simp [szL]
  | x :: xs, h => by
    simp only [goodL, Bool.and_eq_true] at h
    have := len_szL xs h.2
    have := sz_kids x h.1
    simp only [szL, List.length_cons]; omega
theorem pairs_dup : ∀ xs : List D, pairs xs xs = xs.map dup
  | [] => rfl
  | x :: xs => by simp only [pairs, List.map_cons, pairs_dup xs]; rfl
section
variable (S : List Ob)
theorem isi_bI (i : Int) : fIsi ["bool"] S (.int i) = some (.d (.bool false)) := by kernel_rfl
theorem isi_bB (b : Bool) : fIsi ["bool"] S (.bool b) = some (.d (.bool true)) := by kernel_rfl
theorem isi_bS (x : Str) : fIsi ["bool"] S (.str x) = some (.d (.bool false)) := by kernel_rfl
theorem isi_bT (xs : List D) : fIsi ["bool"] S (.tuple xs) = some (.d (.bool false)) := by kernel_rfl
theorem isi_bL (xs : List D) : fIsi ["bool"] S (.list xs) = some (.d (.bool false)) := by kernel_rfl
theorem isi_sI (i : Int) : fIsi ["str"] S (.int i) = some (.d (.bool false)) := by kernel_rfl
theorem isi_sB (b : Bool) : fIsi ["str"] S (.bool b) = some (.d (.bool false)) := by kernel_rfl
theorem isi_sS (x : Str) : fIsi ["str"] S (.str x) = some (.d (.bool true)) := by kernel_rfl
theorem isi_sT (xs : List D) : fIsi ["str"] S (.tuple xs) = some (.d (.bool false)) := by kernel_rfl
theorem isi_sL (xs : List D) : fIsi ["str"] S (.list xs) = some (.d (.bool false)) := by kernel_rfl
theorem isi_qI (i : Int) : fIsi ["tuple", "list"] S (.int i) = some (.d (.bool false)) := by kernel_rfl
theorem isi_qB (b : Bool) : fIsi ["tuple", "list"] S (.bool b) = some (.d (.bool false)) := by kernel_rfl
theorem isi_qS (x : Str) : fIsi ["tuple", "list"] S (.str x) = some (.d (.bool false)) := by kernel_rfl
theorem isi_qT (xs : List D) : fIsi ["tuple", "list"] S (.tuple xs) = some (.d (.bool true)) := by kernel_rfl
theorem isi_qL (xs : List D) : fIsi ["tuple", "list"] S (.list xs) = some (.d (.bool true)) := by kernel_rfl
theorem isi_tT (xs : List D) : fIsi ["tuple"] S (.tuple xs) = some (.d (.bool true)) := by kernel_rfl
theorem isi_tL (xs : List D) : fIsi ["tuple"] S (.list xs) = some (.d (.bool false)) := by kernel_rfl
theorem neB (b : Bool) : fNe S (.bool b) (.bool b) = some (.d (.bool false)) := by rw [e_neB]; simp
theorem neI (i : Int) : fNe S (.int i) (.int i) = some (.d (.bool false)) := by rw [e_neI]; simp
theorem neS (x : Str) : fNe S (.str x) (.str x) = some (.d (.bool false)) := by
  show (if eqB (.str x) (.str x) = true then some (GV.d (.bool (!(x == x)))) else none) = _
  rw [if_pos (by simp [eqB, PyData.plain, PyData.depth])]; simp
theorem lzip_tup (ρ : List (Option GV)) (xs : List D) (h : xs.length ≤ 1000000) (h4 : slotO ρ 4 = some (.d (.tuple xs))) (h5 : slotO ρ 5 = some (.d (.tuple xs))) :
    cLZip (aCons (cVar 4) (aCons (cVar 5) aNil)) ⟨ρ, S⟩ = .ok (.fl (xs.map dup)) ⟨ρ, S⟩ := by
  have e : aCons (cVar 4) (aCons (cVar 5) aNil) ⟨ρ, S⟩ = .ok [.tuple xs, .tuple xs] ⟨ρ, S⟩ := by
    simp only [e_aCons, e_vl, e_cVar, h4, h5, ofO_some, cvG_d, bind_ok, e_kToD, toD_d, e_kCons, e_kConsB, e_aNil]
  unfold cLZip
  rw [e]
  simp only [bind_ok, zipOf, pairs_dup]
  rw [if_pos (by rw [List.length_map]; exact h)]
theorem lzip_lst (ρ : List (Option GV)) (xs : List D) (h : xs.length ≤ 1000000) (h4 : slotO ρ 4 = some (.d (.list xs))) (h5 : slotO ρ 5 = some (.d (.list xs))) :
    cLZip (aCons (cVar 4) (aCons (cVar 5) aNil)) ⟨ρ, S⟩ = .ok (.fl (xs.map dup)) ⟨ρ, S⟩ := by
  have e : aCons (cVar 4) (aCons (cVar 5) aNil) ⟨ρ, S⟩ = .ok [.list xs, .list xs] ⟨ρ, S⟩ := by
    simp only [e_aCons, e_vl, e_cVar, h4, h5, ofO_some, cvG_d, bind_ok, e_kToD, toD_d, e_kCons, e_kConsB, e_aNil]
  unfold cLZip
  rw [e]
  simp only [bind_ok, zipOf, pairs_dup]
  rw [if_pos (by rw [List.length_map]; exact h)]
theorem ext_l (ps zs : List D) (h : ps.length + zs.length ≤ 1000000) : fExtAll S ps (.list zs) = some (.none, ps ++ zs) := by
  show (if ps.length + zs.length ≤ lim then some (PyData.none, ps ++ zs) else none) = _
  exact if_pos h
theorem nth_app (ys : List D) (x : D) (r : List D) : nthD (ys ++ x :: r) ys.length = some x := by
  rw [nthD_eq]; simp
end
def stA (a b : D) (ps : List D) (i : Nat) (o4 o5 : Option GV) (S : List Ob) : T := ⟨[some (.d a), some (.d b), some (.fl ps), some (.d (.int (i : Int))), o4, o5], S⟩
local macro_rules | `(tactic| walk_at "a1") => `(tactic| try simp (disch := (first | omega | (simp only [List.length_cons, List.length_nil] <;> omega) | fail)) only [e_sNil, e_sSeq, e_sRet, e_sRetN, e_sBrk, e_sCnt, e_sRetV, e_sIf, e_sDrop, e_sAsg, e_sAsg2, e_sPar2, e_sPar3, e_sFor, fornx_nx, fornx_ct, fornx_bk, fornx_rt, e_forL_nil, e_forL_cons, e_gOwn, e_gVal, e_gShare0, e_gsNil, e_gsCons, e_gTpT, e_gTpL, e_gTpF, e_cC, e_vl, e_cVar, e_firstVar, e_firstVal, e_lateVar, e_lateVal, e_cOp1, e_cOp2, e_aNil, e_aCons, e_aStar, e_cTup, e_cLst, e_cCall, e_cCallV, e_fnOf, e_fnOf_, e_cIf, e_tB, e_tTru, e_cNotM, e_tNotM, e_tru1, e_cAnd1, e_cAnd2, e_cOr1, e_cOr2, e_tAnd1, e_tAnd2, e_tOr1, e_tOr2, e_tYes, e_optN, e_optS, e_cCut, e_cTab, e_iVal, e_iVar, e_seqL, e_seqT, e_iRange1, e_iRange2, e_intO, e_strO, e_iZipM, e_zipL, e_zipT, e_pairs, e_pairs0, e_cLc, e_lcN, e_lcC, e_cLc2, e_loN, e_loC, e_cMt1, e_fFlIf, e_fSIf, e_cMt0, e_gSet, e_sAugS, e_lstAt, e_lstFl, e_lstRef0, e_putAt, putO_fl, putO_ref0, e_endRt, e_endNx, le_lim, lt_lim, e_add, e_addT, e_addL, e_sub, e_mul, e_div, e_mod, e_lt, e_le, e_gt, e_ge, e_abs, e_neg, e_int1, e_addI, e_subI, e_truB, e_truI, e_truL, e_truT, e_itT, e_itL, e_lenT, e_lenL, e_tupT, e_tupL, e_appd, e_eqI, e_neI, e_eqS, e_eqB, e_neB, nthD_0, nthD_s, e_ixT, e_ixL, e_ixT0, e_ixT1, e_ixT2, e_ixT3, e_ixT4, e_ixT5, e_ixT6, e_ixT7, e_ixL0, e_ixL1, e_ixL2, e_ixL3, e_ixL4, e_ixL5, e_ixL6, e_ixL7, e_ixR00, e_ixR01, e_ixR02, e_ixR03, e_map, e_atI0, e_atI1, e_atI2, e_atI3, e_ixN0, e_ixN1, e_ixN2, e_ixN3, cut_from0, cut_from1, cut_from2, cut_from3, cut_to0, cut_to1, cut_to2, cut_to3, e_cutT, e_cutL, hide_d, wipe_n, wipe_c, hideG_d, hideG_o, hideG_n, e_kRet, e_kNx, e_kAsg, e_kAsg2b, e_kAsg2, e_kPar2c, e_kPar2b, e_kPar2a, e_kPar3d, e_kPar3c, e_kPar3b, e_kPar3a, e_kFor, e_kForB, e_kAugC, e_kAugB, e_kRetV, e_kToD, e_kFv, e_kOk, e_kOp1c, e_kOp1, e_kOp2d, e_kOp2c, e_kOp2b, e_kOp2a, e_kConsB, e_kCons, e_kStarC, e_kStarB, e_kStarA, e_kStar, e_kTup, e_kLst, e_kCall, e_kCallVB, e_kCallV, e_kOkB, e_kTruB, e_kTru, e_kNotM, e_kTNot, e_kTru1B, e_kTru1, e_kOptB, e_kOpt, e_kCutD, e_kCutC, e_kCutB, e_kCut, e_kOkD, e_kTabB, e_kTab, e_kOkL, e_kIVal, e_kRg1B, e_kRg1, e_kRg2D, e_kRg2C, e_kRg2B, e_kRg2, e_kZipB, e_kZip, e_kLc, e_kLcA, e_kLc2, e_kLoD, e_kLoC, e_kLoA, e_kMtC, e_kMtB, e_kMtA, e_kMt0, e_kSetD, e_kSetC, e_kSetB, e_kSetA, e_kAsG, e_kAsF, e_kAsE, e_kAsD, e_kAsC, e_kAsB, e_kAsA, e_kAs, e_kGs, e_kIfS1, e_kIfS0, cvG_d, cvG_fl, e_kIfE1, e_kIfE0, e_kTB, e_kAndE1, e_kAndE0, e_kOrE1, e_kOrE0, e_ktAnd1, e_ktAnd0, e_ktOr1, e_ktOr0, ivG_fl, ivG_l, ivG_t, e_kLcC, e_kLcB1, e_kLcB0, RcO_ok, e_kLoB1, e_kLoB0, slotO_0, slotO_s, set_0, set_s, ofO_some, ofOF_some, ofRc_ok, RcB_ok, bind_ok, fl_ok, Fl.seq_nx, Fl.seq_rt, Fl.seq_bk, Fl.seq_ct, toD_d, toD_fl, beq_self_eq_true, eq_self, p1018, p1012, p109, cDivS, cModP, Int.reduceMod, Int.reduceSub, Int.reduceAdd, Int.reduceNeg, Int.reduceLT, Int.reduceLE, Int.reduceEq, Int.reduceMul, Int.reduceDiv, List.length_cons, List.length_nil, Nat.reduceAdd, Nat.reduceLT, Nat.reduceLeDiff, Nat.reduceEqDiff, if_true, if_false, Bool.false_eq_true, reduceIte, reduceCtorEq, Nat.zero_lt_succ, Option.bind_some, Option.map_some, Option.isSome_some, List.cons_append, List.nil_append, decide_true, decide_false, Bool.not_true, Bool.not_false, List.isEmpty_nil, List.isEmpty_cons, Nat.zero_add, List.map_cons, List.map_nil, List.drop_succ_cons, List.drop_zero, List.take_succ_cons, List.take_zero, isi_bI, isi_bB, isi_bS, isi_bT, isi_bL, isi_sI, isi_sB, isi_sS, isi_sT, isi_sL, isi_qI, isi_qB, isi_qS, isi_qT, isi_qL, isi_tT, isi_tL, neB, neI, neS])
theorem alike_step (a b : D) (dn : List D) (x : D) (r : List D) (o4 o5) (S) (hx : good x = true) (hl : dn.length + 1 + r.length + szL (kids x) ≤ 100000) :
    stepW cA wA (stA a b (dn ++ dup x :: r) dn.length o4 o5 S) = .inr (stA a b (dn ++ dup x :: (r ++ (kids x).map dup)) (dn.length + 1) (some (.d x)) (some (.d x)) S) := by
  have h1 : ((dn.length : Nat) : Int) < ((dn ++ dup x :: r).length : Nat) := by rw [List.length_append, List.length_cons]; omega
  have hk := len_szL (kids x) (good_kids x hx)
  have n1 := nth_app dn (dup x) r
  have d1 : dup x = .tuple [x, x] := rfl
  have aug : ∀ (o4 o5 : Option GV) (ps : List D), sAug 3 .own fAdd' (cC (.int 1)) ⟨[some (.d a), some (.d b), some (.fl ps), some (.d (.int ((dn.length : Nat) : Int))), o4, o5], S⟩ = .nx ⟨[some (.d a), some (.d b), some (.fl ps), some (.d (.int (((dn.length + 1 : Nat)) : Int))), o4, o5], S⟩ := fun o4 o5 ps => by
    rw [e_sAug _ _ _ _ _ _ (.int ((dn.length : Nat) : Int)) rfl]
    walk_at "a1"
    rfl
  have hl2 : (dn ++ dup x :: r).length + ((kids x).map dup).length ≤ 1000000 := by
    rw [List.length_append, List.length_cons, List.length_map]; omega
  unfold stepW stA cA wA
  walk_at "a1"
  rw [decide_eq_true h1, if_pos rfl]
  walk_at "a1"
  rw [n1]
  rw [d1] at hl2 ⊢
  walk_at "a1"
  rw [aug]
  cases x with
  | int i =>
    walk_at "a1"
    try simp only [kids, List.map_nil, List.append_nil]
  | bool i =>
    walk_at "a1"
    try simp only [kids, List.map_nil, List.append_nil]
  | str i =>
    walk_at "a1"
    try simp only [kids, List.map_nil, List.append_nil]
  | tuple xs =>
    walk_at "a1"
    simp only [kids] at hl2 hk hl
    rw [lzip_tup S _ xs (by omega) rfl rfl]
    walk_at "a1"
    rw [ext_l S _ _ hl2]
    walk_at "a1"
    try simp only [kids, List.append_assoc, List.cons_append]
  | list xs =>
    walk_at "a1"
    simp only [kids] at hl2 hk hl
    rw [lzip_lst S _ xs (by omega) rfl rfl]
    walk_at "a1"
    rw [ext_l S _ _ hl2]
    walk_at "a1"
    try simp only [kids, List.append_assoc, List.cons_append]
  | none => simp [good] at hx
  | dict => simp [good] at hx
theorem alike_end (a b : D) (dn : List D) (o4 o5) (S) : stepW cA wA (stA a b dn dn.length o4 o5 S) = .inl (.nx (stA a b dn dn.length o4 o5 S)) := by
  unfold stepW stA cA
  walk_at "a1"
  simp
theorem alike_iter (a b : D) (S) : ∀ (N : Nat) (dn qs : List D) (o4 o5), goodL qs = true → szL qs = N → dn.length + N ≤ 100000 →
    ∃ ps o4' o5', iterW cA wA (N + 1) (stA a b (dn ++ qs.map dup) dn.length o4 o5 S) = .inl (.nx (stA a b ps ps.length o4' o5' S))
  | N, dn, [], o4, o5, hg, hs, hl => by
    refine ⟨dn, o4, o5, ?_⟩
    rw [List.map_nil, List.append_nil]
    unfold iterW
    rw [alike_end]
  | 0, dn, x :: qs, o4, o5, hg, hs, hl => by
    simp only [goodL, Bool.and_eq_true] at hg
    have := sz_kids x hg.1
    simp only [szL] at hs
    omega
  | N + 1, dn, x :: qs, o4, o5, hg, hs, hl => by
    simp only [goodL, Bool.and_eq_true] at hg
    have e1 := sz_kids x hg.1
    simp only [szL] at hs
    have e2 := len_szL qs hg.2
    obtain ⟨ps, o4', o5', h⟩ := alike_iter a b S N (dn ++ [dup x]) (qs ++ kids x) (some (.d x)) (some (.d x)) (by rw [goodL_app, hg.2, good_kids x hg.1]; rfl) (by rw [szL_app]; omega) (by rw [List.length_append, List.length_cons, List.length_nil]; omega)
    refine ⟨ps, o4', o5', ?_⟩
    rw [List.map_cons]
    unfold iterW
    rw [alike_step a b dn x (qs.map dup) o4 o5 S hg.1 (by rw [List.length_map]; omega)]
    rw [List.length_append, List.length_cons, List.length_nil, List.map_append, List.append_assoc] at h
    exact h
/-- the same data are alike -/
theorem alike_s (k : Nat) (x : D) (hx : good x = true) (hs : sz x ≤ 10000) (S) : callN pg (k + 1) 64 [x, x] S = .ok (.d (.bool true)) S := by
  obtain ⟨ps, o4, o5, h⟩ := alike_iter x x S (sz x) [] [x] none none (by simp [goodL, hx]) (by simp [szL]) (by simp; omega)
  have hw := sWhile_of h (by omega)
  rw [c64]; unfold b64
  walk_at "a1"
  have hw' : (sWhile (tB (cOp2 fLt (.var 3) (.val (cOp1 fLen (.var 2))))) (sSeq (sAsg (gTp 2 (gsCons (gNm 4 .own) (gsCons (gNm 5 .own) gsNil))) (cOp2 fIx (.var 2) (.var 3))) (sSeq (sAug 3 .own fAdd' (cC (.int (1)))) (sSeq (sIf (tOrM [(tB (cOp2 fNe (.val (cOp1 (fIsi ["bool"]) (.var 4))) (.val (cOp1 (fIsi ["bool"]) (.var 5))))), (tB (cOp2 fNe (.val (cOp1 (fIsi ["str"]) (.var 4))) (.val (cOp1 (fIsi ["str"]) (.var 5)))))]) (sRet (cC (.bool false))) sNil) (sSeq (sIf (tB (cOp2 fNe (.val (cOp1 (fIsi ["tuple", "list"]) (.var 4))) (.val (cOp1 (fIsi ["tuple", "list"]) (.var 5))))) (sRet (cC (.bool false))) sNil) (sIf (tTru (.val (cOp1 (fIsi ["tuple", "list"]) (.var 4)))) (sSeq (sIf (tOrM [(tB (cOp2 fNe (.val (cOp1 (fIsi ["tuple"]) (.var 4))) (.val (cOp1 (fIsi ["tuple"]) (.var 5))))), (tB (cOp2 fNe (.val (cOp1 fLen (.var 4))) (.val (cOp1 fLen (.var 5)))))]) (sRet (cC (.bool false))) sNil) (sDrop (cMt1 2 fExtAll (cLZip (aCons (cVar 4) (aCons (cVar 5) aNil)))))) (sIf (tB (cOp2 fNe (.var 4) (.var 5))) (sRet (cC (.bool false))) sNil))))))) ⟨[some (.d x), some (.d x), some (.fl [.tuple [x, x]]), some (.d (.int 0)), none, none], S⟩ = _ := hw
  rw [hw']
  unfold stA
  walk_at "a1"
end K03


set_option Elab.async false
set_option linter.all false
set_option linter.unusedSimpArgs false
set_option exponentiation.threshold 20000
set_option maxRecDepth 100000
set_option maxHeartbeats 4000000
namespace K03
open PySem PySem.Spec L2 Mi
/-! KS9: the terms, their ranges and values. -/
def atX : D := .tuple [.str "input", .int 0]
def atY : D := .tuple [.str "input", .int 1]
def atS : D := .tuple [.str "state", .int 0]
def mn (at_ : D) (n : Int) : D := .tuple [.tuple [at_, .int n]]
def tX : D := .tuple [.tuple [mn atX 1, fr 1]]
def tY : D := .tuple [.tuple [mn atY 1, fr 1]]
def tS : D := .tuple [.tuple [mn atS 1, fr 1]]
def tH : D := .tuple [.tuple [.tuple [], fr (mkRat 1 2)]]
def tXH : D := .tuple [.tuple [.tuple [], fr (mkRat (-1) 2)], .tuple [mn atX 1, fr 1]]
def T1 : D := .tuple [.tuple [mn atX 1, fr 1], .tuple [mn atY 1, fr 1]]
def T2 : D := .tuple [.tuple [mn atX 1, fr 1], .tuple [mn atS 1, fr (-1)]]
def mXY : D := .tuple [.tuple [atX, .int 1], .tuple [atY, .int 1]]
def T3 : D := .tuple [.tuple [mXY, fr 1]]
def txx : D := .tuple [.tuple [mn atX 2, fr 1]]
def T4 : D := .tuple [.tuple [mn atX 3, fr 1]]
def T5 : D := .tuple [.tuple [mn atS 2, fr 1]]
def atL : D := .tuple [.str "least", tX, tS]
def atM : D := .tuple [.str "most", tY, tS]
def atP : D := .tuple [.str "pick", tXH, tY, tS]
def T6 : D := .tuple [.tuple [mn atL 1, fr 1]]
def T7 : D := .tuple [.tuple [mn atM 1, fr 1]]
def T8 : D := .tuple [.tuple [mn atP 1, fr 1]]
def T9 : D := .tuple [.tuple [.tuple [], fr 1]]
section
variable (k : Nat) (S : List Ob)
theorem m_x : callN pg (k + 10) 31 [.int 0] S = .ok (.d tX) S := by kernel_rfl
theorem m_y : callN pg (k + 10) 31 [.int 1] S = .ok (.d tY) S := by kernel_rfl
theorem m_s : callN pg (k + 10) 32 [.int 0] S = .ok (.d tS) S := by kernel_rfl
theorem m_h : callN pg (k + 10) 29 [fr (mkRat 1 2)] S = .ok (.d tH) S := by kernel_rfl
theorem m_1 : callN pg (k + 20) 34 [tX, tY] S = .ok (.d T1) S := by kernel_rfl
theorem m_2 : callN pg (k + 20) 36 [tX, tS] S = .ok (.d T2) S := by kernel_rfl
theorem m_3 : callN pg (k + 20) 38 [tX, tY] S = .ok (.d T3) S := by kernel_rfl
theorem m_xx : callN pg (k + 20) 38 [tX, tX] S = .ok (.d txx) S := by kernel_rfl
theorem m_4 : callN pg (k + 20) 38 [tX, txx] S = .ok (.d T4) S := by kernel_rfl
theorem m_5 : callN pg (k + 20) 38 [tS, tS] S = .ok (.d T5) S := by kernel_rfl
theorem m_6 : callN pg (k + 20) 41 [tX, tS] S = .ok (.d T6) S := by kernel_rfl
theorem m_7 : callN pg (k + 20) 42 [tY, tS] S = .ok (.d T7) S := by kernel_rfl
theorem m_xh : callN pg (k + 20) 36 [tX, tH] S = .ok (.d tXH) S := by kernel_rfl
theorem m_8 : callN pg (k + 20) 39 [tXH, tY, tS] S = .ok (.d T8) S := by kernel_rfl
theorem m_9 : callN pg (k + 20) 34 [tH, tH] S = .ok (.d T9) S := by kernel_rfl
theorem a_1 : callN pg (k + 10) 50 [T1] S = .ok (.d (.tuple [atX, atY])) S := by kernel_rfl
theorem a_2 : callN pg (k + 10) 50 [T2] S = .ok (.d (.tuple [atX, atS])) S := by kernel_rfl
end

theorem s_state_input : (("state" : Str) == ("input" : Str)) = false := by kernel_rfl
theorem s_least_input : (("least" : Str) == ("input" : Str)) = false := by kernel_rfl
theorem s_least_state : (("least" : Str) == ("state" : Str)) = false := by kernel_rfl
theorem s_most_input : (("most" : Str) == ("input" : Str)) = false := by kernel_rfl
theorem s_most_state : (("most" : Str) == ("state" : Str)) = false := by kernel_rfl
theorem s_most_least : (("most" : Str) == ("least" : Str)) = false := by kernel_rfl
theorem s_pick_input : (("pick" : Str) == ("input" : Str)) = false := by kernel_rfl
theorem s_pick_state : (("pick" : Str) == ("state" : Str)) = false := by kernel_rfl
theorem s_pick_least : (("pick" : Str) == ("least" : Str)) = false := by kernel_rfl
theorem s_pick_most : (("pick" : Str) == ("most" : Str)) = false := by kernel_rfl
theorem s_least_pick : (("least" : Str) == ("pick" : Str)) = false := by kernel_rfl
theorem s_most_pick : (("most" : Str) == ("pick" : Str)) = false := by kernel_rfl
instance instBtm12 : Bt (mkRat (-1) 2) 2 := ⟨by decide, by decide⟩
theorem mlo_one {p q : Rat} (h : p ≤ q) : mlo 1 1 p q = p := by unfold mlo rmin; grind
theorem mhi_one {p q : Rat} (h : p ≤ q) : mhi 1 1 p q = q := by unfold mhi rmax; grind
theorem mlo_neg {p q : Rat} (h : p ≤ q) : mlo (-1) (-1) p q = -q := by unfold mlo rmin; grind
theorem mhi_neg {p q : Rat} (h : p ≤ q) : mhi (-1) (-1) p q = -p := by unfold mhi rmax; grind
theorem mlo_pt (x : Rat) : mlo x x 1 1 = x := by unfold mlo rmin; grind
theorem mhi_pt (x : Rat) : mhi x x 1 1 = x := by unfold mhi rmax; grind
theorem powLo1 {p q : Rat} (h : p ≤ q) : powLo p q 1 = p := by rw [(pow_odd_eq h 0).1, rpow_one]
theorem powHi1 {p q : Rat} (h : p ≤ q) : powHi p q 1 = q := by rw [(pow_odd_eq h 0).2, rpow_one]
theorem pow_le {p q : Rat} (h : p ≤ q) (n : Nat) : powLo p q n ≤ powHi p q n := by
  have := pow_in (Rat.le_refl (a := p)) h n
  exact Rat.le_trans this.1 this.2
theorem rmin_mono {a b c d : Rat} (h : a ≤ b) (h2 : c ≤ d) : rmin a c ≤ rmin b d := by unfold rmin; grind
theorem rmax_mono {a b c d : Rat} (h : a ≤ b) (h2 : c ≤ d) : rmax a c ≤ rmax b d := by unfold rmax; grind
theorem m_le {a b c d : Rat} (h : a ≤ b) (h2 : c ≤ d) : mlo a b c d ≤ mhi a b c d := by
  have := mul_in (Rat.le_refl (a := a)) h (Rat.le_refl (a := c)) h2
  exact Rat.le_trans this.1 this.2
local macro_rules | `(tactic| walk_at "v0") => `(tactic| try simp (disch := (first | omega | (simp only [List.length_cons, List.length_nil] <;> omega) | fail)) only [e_sNil, e_sSeq, e_sRet, e_sRetN, e_sBrk, e_sCnt, e_sRetV, e_sIf, e_sDrop, e_sAsg, e_sAsg2, e_sPar2, e_sPar3, e_sFor, fornx_nx, fornx_ct, fornx_bk, fornx_rt, e_forL_nil, e_forL_cons, e_gOwn, e_gVal, e_gShare0, e_gsNil, e_gsCons, e_gTpT, e_gTpL, e_gTpF, e_cC, e_vl, e_cVar, e_firstVar, e_firstVal, e_lateVar, e_lateVal, e_cOp1, e_cOp2, e_aNil, e_aCons, e_aStar, e_cTup, e_cLst, e_cCall, e_cCallV, e_fnOf, e_fnOf_, e_cIf, e_tB, e_tTru, e_cNotM, e_tNotM, e_tru1, e_cAnd1, e_cAnd2, e_cOr1, e_cOr2, e_tAnd1, e_tAnd2, e_tOr1, e_tOr2, e_tYes, e_optN, e_optS, e_cCut, e_cTab, e_iVal, e_iVar, e_seqL, e_seqT, e_iRange1, e_iRange2, e_intO, e_strO, e_iZipM, e_zipL, e_zipT, e_pairs, e_pairs0, e_cLc, e_lcN, e_lcC, e_cLc2, e_loN, e_loC, e_cMt1, e_fFlIf, e_fSIf, e_cMt0, e_gSet, e_sAugS, e_lstAt, e_lstFl, e_lstRef0, e_putAt, putO_fl, putO_ref0, e_endRt, e_endNx, le_lim, lt_lim, e_add, e_addT, e_addL, e_sub, e_mul, e_div, e_mod, e_lt, e_le, e_gt, e_ge, e_abs, e_neg, e_int1, e_addI, e_subI, e_truB, e_truI, e_truL, e_truT, e_itT, e_itL, e_lenT, e_lenL, e_tupT, e_tupL, e_appd, e_eqI, e_neI, e_eqS, e_eqB, e_neB, nthD_0, nthD_s, e_ixT, e_ixL, e_ixT0, e_ixT1, e_ixT2, e_ixT3, e_ixT4, e_ixT5, e_ixT6, e_ixT7, e_ixL0, e_ixL1, e_ixL2, e_ixL3, e_ixL4, e_ixL5, e_ixL6, e_ixL7, e_ixR00, e_ixR01, e_ixR02, e_ixR03, e_map, e_atI0, e_atI1, e_atI2, e_atI3, e_ixN0, e_ixN1, e_ixN2, e_ixN3, cut_from0, cut_from1, cut_from2, cut_from3, cut_to0, cut_to1, cut_to2, cut_to3, e_cutT, e_cutL, hide_d, wipe_n, wipe_c, hideG_d, hideG_o, hideG_n, e_kRet, e_kNx, e_kAsg, e_kAsg2b, e_kAsg2, e_kPar2c, e_kPar2b, e_kPar2a, e_kPar3d, e_kPar3c, e_kPar3b, e_kPar3a, e_kFor, e_kForB, e_kAugC, e_kAugB, e_kRetV, e_kToD, e_kFv, e_kOk, e_kOp1c, e_kOp1, e_kOp2d, e_kOp2c, e_kOp2b, e_kOp2a, e_kConsB, e_kCons, e_kStarC, e_kStarB, e_kStarA, e_kStar, e_kTup, e_kLst, e_kCall, e_kCallVB, e_kCallV, e_kOkB, e_kTruB, e_kTru, e_kNotM, e_kTNot, e_kTru1B, e_kTru1, e_kOptB, e_kOpt, e_kCutD, e_kCutC, e_kCutB, e_kCut, e_kOkD, e_kTabB, e_kTab, e_kOkL, e_kIVal, e_kRg1B, e_kRg1, e_kRg2D, e_kRg2C, e_kRg2B, e_kRg2, e_kZipB, e_kZip, e_kLc, e_kLcA, e_kLc2, e_kLoD, e_kLoC, e_kLoA, e_kMtC, e_kMtB, e_kMtA, e_kMt0, e_kSetD, e_kSetC, e_kSetB, e_kSetA, e_kAsG, e_kAsF, e_kAsE, e_kAsD, e_kAsC, e_kAsB, e_kAsA, e_kAs, e_kGs, e_kIfS1, e_kIfS0, cvG_d, cvG_fl, e_kIfE1, e_kIfE0, e_kTB, e_kAndE1, e_kAndE0, e_kOrE1, e_kOrE0, e_ktAnd1, e_ktAnd0, e_ktOr1, e_ktOr0, ivG_fl, ivG_l, ivG_t, e_kLcC, e_kLcB1, e_kLcB0, RcO_ok, e_kLoB1, e_kLoB0, slotO_0, slotO_s, set_0, set_s, ofO_some, ofOF_some, ofRc_ok, RcB_ok, bind_ok, fl_ok, Fl.seq_nx, Fl.seq_rt, Fl.seq_bk, Fl.seq_ct, toD_d, toD_fl, beq_self_eq_true, eq_self, p1018, p1012, p109, cDivS, cModP, Int.reduceMod, Int.reduceSub, Int.reduceAdd, Int.reduceNeg, Int.reduceLT, Int.reduceLE, Int.reduceEq, Int.reduceMul, Int.reduceDiv, List.length_cons, List.length_nil, Nat.reduceAdd, Nat.reduceLT, Nat.reduceLeDiff, Nat.reduceEqDiff, if_true, if_false, Bool.false_eq_true, reduceIte, reduceCtorEq, Nat.zero_lt_succ, Option.bind_some, Option.map_some, Option.isSome_some, List.cons_append, List.nil_append, decide_true, decide_false, Bool.not_true, Bool.not_false, List.isEmpty_nil, List.isEmpty_cons, Nat.zero_add, List.map_cons, List.map_nil, List.drop_succ_cons, List.drop_zero, List.take_succ_cons, List.take_zero, ix_fr0, ix_fr1, fr0, fr1, frm1, fr12, plus_s, minus_s, times_s, less_s, size_s, lesser_s, greater_s, point_s, plus_span_s, minus_span_s, times_span_s, least_span_s, most_span_s, joined_span_s, span4_s, row0, row1, row2, row3, rngOk, e_eqF, e_neF, s_state_input, s_least_input, s_least_state, s_most_input, s_most_state, s_most_least, s_pick_input, s_pick_state, s_pick_least, s_pick_most, s_least_pick, s_most_pick, power1_s, power2_s, power3_s])
section
variable (k : Nat) (a b c d e f p q : Rat) {na nb nc nd ne nf np nq : Nat} [Bt a 90] [Bt b 90] [Bt c 90] [Bt d 90] [Bt e 90] [Bt f 90] (S : List Ob)
/-! ranges of atoms -/
theorem at_x (x y z : D) : callN pg (k + 1) 48 [atX, .tuple [x, y], z] S = .ok (.d x) S := by
  rw [c48]; unfold b48 atX
  walk_at "v0"
theorem at_y (x y z : D) : callN pg (k + 1) 48 [atY, .tuple [x, y], z] S = .ok (.d y) S := by
  rw [c48]; unfold b48 atY
  walk_at "v0"
theorem at_st (x z : D) : callN pg (k + 1) 48 [atS, x, .tuple [z]] S = .ok (.d z) S := by
  rw [c48]; unfold b48 atS
  walk_at "v0"
variable (A M i s : D)
theorem mon1 [Bt p np] [Bt q nq] (hpq : p ≤ q) (hn : np + nq ≤ 300) (hA : callN pg (k + 10) 48 [A, i, s] S = .ok (.d (.tuple [fr p, fr q])) S) : callN pg (k + 11) 45 [mn A 1, i, s] S = .ok (.d (.tuple [fr p, fr q])) S := by
  rw [c45]; unfold b45 mn
  walk_at "v0"
  rw [hA]
  walk_at "v0"
  rw [powLo1 hpq, powHi1 hpq, mlo_one hpq, mhi_one hpq]

theorem mon2 [Bt p 90] [Bt q 90] (hpq : p ≤ q) (hA : callN pg (k + 10) 48 [A, i, s] S = .ok (.d (.tuple [fr p, fr q])) S) : callN pg (k + 11) 45 [mn A 2, i, s] S = .ok (.d (.tuple [fr (powLo p q 2), fr (powHi p q 2)])) S := by
  rw [c45]; unfold b45 mn
  walk_at "v0"
  rw [hA]
  walk_at "v0"
  rw [mlo_one (pow_le hpq _), mhi_one (pow_le hpq _)]

theorem mon3 [Bt p 90] [Bt q 90] (hpq : p ≤ q) (hA : callN pg (k + 10) 48 [A, i, s] S = .ok (.d (.tuple [fr p, fr q])) S) : callN pg (k + 11) 45 [mn A 3, i, s] S = .ok (.d (.tuple [fr (powLo p q 3), fr (powHi p q 3)])) S := by
  rw [c45]; unfold b45 mn
  walk_at "v0"
  rw [hA]
  walk_at "v0"
  rw [mlo_one (pow_le hpq _), mhi_one (pow_le hpq _)]

omit [Bt e 90] [Bt f 90] in
theorem monXY (hab : a ≤ b) (hcd : c ≤ d) : callN pg (k + 11) 45 [mXY, .tuple [.tuple [fr a, fr b], .tuple [fr c, fr d]], s] S = .ok (.d (.tuple [fr (mlo a b c d), fr (mhi a b c d)])) S := by
  rw [c45]; unfold b45 mXY
  walk_at "v0"
  rw [at_x (k + 9)]
  walk_at "v0"
  rw [at_y (k + 9)]
  walk_at "v0"
  rw [powLo1 hab, powHi1 hab, powLo1 hcd, powHi1 hcd, mlo_one hab, mhi_one hab]
theorem mon0 : callN pg (k + 11) 45 [.tuple [], i, s] S = .ok (.d (.tuple [fr 1, fr 1])) S := by
  rw [c45]; unfold b45
  walk_at "v0"
theorem term1 [Bt p np] [Bt q nq] (hpq : p ≤ q) (hn : np + nq ≤ 800) (hM : callN pg (k + 11) 45 [M, i, s] S = .ok (.d (.tuple [fr p, fr q])) S) : callN pg (k + 12) 46 [.tuple [.tuple [M, fr 1]], i, s] S = .ok (.d (.tuple [fr p, fr q])) S := by
  rw [c46]; unfold b46
  walk_at "v0"
  rw [hM]
  walk_at "v0"
  rw [mlo_one hpq, mhi_one hpq]
  walk_at "v0"
  rw [Rat.zero_add, Rat.zero_add]
variable (hab : a ≤ b) (hcd : c ≤ d) (hef : e ≤ f)
include hab hcd hef
abbrev insD (a b c d : Rat) : D := .tuple [.tuple [fr a, fr b], .tuple [fr c, fr d]]
abbrev stsD (e f : Rat) : D := .tuple [.tuple [fr e, fr f]]
omit [Bt c 90] [Bt d 90] [Bt e 90] [Bt f 90] hcd hef in
theorem mon_x : callN pg (k + 11) 45 [mn atX 1, insD a b c d, stsD e f] S = .ok (.d (.tuple [fr a, fr b])) S := mon1 k a b S atX _ _ hab (by omega) (at_x (k + 9) S _ _ _)
omit [Bt a 90] [Bt b 90] [Bt e 90] [Bt f 90] hab hef in
theorem mon_y : callN pg (k + 11) 45 [mn atY 1, insD a b c d, stsD e f] S = .ok (.d (.tuple [fr c, fr d])) S := mon1 k c d S atY _ _ hcd (by omega) (at_y (k + 9) S _ _ _)
omit [Bt a 90] [Bt b 90] [Bt c 90] [Bt d 90] hab hcd in
theorem mon_s : callN pg (k + 11) 45 [mn atS 1, insD a b c d, stsD e f] S = .ok (.d (.tuple [fr e, fr f])) S := mon1 k e f S atS _ _ hef (by omega) (at_st (k + 9) S _ _)
omit [Bt c 90] [Bt d 90] [Bt e 90] [Bt f 90] hcd hef in
theorem ts_x : callN pg (k + 12) 46 [tX, insD a b c d, stsD e f] S = .ok (.d (.tuple [fr a, fr b])) S := term1 k a b S _ _ _ hab (by omega) (mon_x k a b c d e f S hab)
omit [Bt a 90] [Bt b 90] [Bt e 90] [Bt f 90] hab hef in
theorem ts_y : callN pg (k + 12) 46 [tY, insD a b c d, stsD e f] S = .ok (.d (.tuple [fr c, fr d])) S := term1 k c d S _ _ _ hcd (by omega) (mon_y k a b c d e f S hcd)
omit [Bt a 90] [Bt b 90] [Bt c 90] [Bt d 90] hab hcd in
theorem ts_s : callN pg (k + 12) 46 [tS, insD a b c d, stsD e f] S = .ok (.d (.tuple [fr e, fr f])) S := term1 k e f S _ _ _ hef (by omega) (mon_s k a b c d e f S hef)
theorem ts_1 : callN pg (k + 12) 46 [T1, insD a b c d, stsD e f] S = .ok (.d (.tuple [fr (a + c), fr (b + d)])) S := by
  rw [c46]; unfold b46 T1
  walk_at "v0"
  rw [mon_x k a b c d e f S hab]
  walk_at "v0"
  rw [mon_y k a b c d e f S hcd]
  walk_at "v0"
  rw [mlo_one hab, mhi_one hab, mlo_one hcd, mhi_one hcd, Rat.zero_add, Rat.zero_add]
theorem ts_2 : callN pg (k + 12) 46 [T2, insD a b c d, stsD e f] S = .ok (.d (.tuple [fr (a - f), fr (b - e)])) S := by
  rw [c46]; unfold b46 T2
  walk_at "v0"
  rw [mon_x k a b c d e f S hab]
  walk_at "v0"
  rw [mon_s k a b c d e f S hef]
  walk_at "v0"
  rw [mlo_one hab, mhi_one hab, mlo_neg hef, mhi_neg hef, Rat.zero_add, Rat.zero_add, ← Rat.sub_eq_add_neg, ← Rat.sub_eq_add_neg]
theorem ts_xh : callN pg (k + 12) 46 [tXH, insD a b c d, stsD e f] S = .ok (.d (.tuple [fr (a - mkRat 1 2), fr (b - mkRat 1 2)])) S := by
  have e1 : (0 : Rat) + mkRat (-1) 2 + a = a - mkRat 1 2 := by rw [show mkRat (-1) 2 = -mkRat 1 2 from rfl]; grind
  have e2 : (0 : Rat) + mkRat (-1) 2 + b = b - mkRat 1 2 := by rw [show mkRat (-1) 2 = -mkRat 1 2 from rfl]; grind
  rw [c46]; unfold b46 tXH
  walk_at "v0"
  rw [mon0 k]
  walk_at "v0"
  rw [mon_x k a b c d e f S hab]
  walk_at "v0"
  rw [mlo_one hab, mhi_one hab, mlo_pt, mhi_pt, e1, e2]
omit hef in
theorem ts_3 : callN pg (k + 12) 46 [T3, insD a b c d, stsD e f] S = .ok (.d (.tuple [fr (mlo a b c d), fr (mhi a b c d)])) S := term1 k _ _ S _ _ _ (m_le hab hcd) (by omega) (monXY k a b c d S _ hab hcd)
omit hcd hef in
theorem ts_4 : callN pg (k + 12) 46 [T4, insD a b c d, stsD e f] S = .ok (.d (.tuple [fr (powLo a b 3), fr (powHi a b 3)])) S := term1 k _ _ S _ _ _ (pow_le hab 3) (by omega) (mon3 k a b S atX _ _ hab (at_x (k + 9) S _ _ _))
omit hab hcd in
theorem ts_5 : callN pg (k + 12) 46 [T5, insD a b c d, stsD e f] S = .ok (.d (.tuple [fr (powLo e f 2), fr (powHi e f 2)])) S := term1 k _ _ S _ _ _ (pow_le hef 2) (by omega) (mon2 k e f S atS _ _ hef (at_st (k + 9) S _ _))
theorem ts_9 : callN pg (k + 12) 46 [T9, insD a b c d, stsD e f] S = .ok (.d (.tuple [fr 1, fr 1])) S := term1 k _ _ S _ _ _ Rat.le_refl (by omega) (mon0 k S _ _)
theorem at_l : callN pg (k + 20) 48 [atL, insD a b c d, stsD e f] S = .ok (.d (.tuple [fr (rmin a e), fr (rmin b f)])) S := by
  rw [c48]; unfold b48 atL
  walk_at "v0"
  rw [ts_x (k + 7) a b c d e f S hab]
  walk_at "v0"
  rw [ts_s (k + 7) a b c d e f S hef]
  walk_at "v0"
theorem at_m : callN pg (k + 20) 48 [atM, insD a b c d, stsD e f] S = .ok (.d (.tuple [fr (rmax c e), fr (rmax d f)])) S := by
  rw [c48]; unfold b48 atM
  walk_at "v0"
  rw [ts_y (k + 7) a b c d e f S hcd]
  walk_at "v0"
  rw [ts_s (k + 7) a b c d e f S hef]
  walk_at "v0"
theorem at_p : ∃ p q, (∀ k, callN pg (k + 20) 48 [atP, insD a b c d, stsD e f] S = .ok (.d (.tuple [fr p, fr q])) S) ∧ p ≤ q ∧ Bt p 90 ∧ Bt q 90 ∧
    (∀ k, callN pg (k + 4) 87 [.tuple [fr (a - mkRat 1 2), fr (b - mkRat 1 2)], .tuple [fr 0, fr 0], .tuple [fr c, fr d], .tuple [fr e, fr f]] S = .ok (.d (.tuple [fr p, fr q])) S) ∧
    ∀ x y s, a ≤ x → x ≤ b → c ≤ y → y ≤ d → e ≤ s → s ≤ f → p ≤ (if x - mkRat 1 2 < 0 then y else s) ∧ (if x - mkRat 1 2 < 0 then y else s) ≤ q := by
  have walkP : ∀ (k : Nat) (r : D), (∀ k, callN pg (k + 4) 47 [.list [.tuple [fr (a - mkRat 1 2), fr (b - mkRat 1 2)], .tuple [fr c, fr d], .tuple [fr e, fr f]]] S = .ok (.d r) S) →
      callN pg (k + 20) 48 [atP, insD a b c d, stsD e f] S = .ok (.d r) S := fun k r hr => by
    rw [c48]; unfold b48 atP
    walk_at "v0"
    rw [ts_xh (k + 7) a b c d e f S hab hcd hef]
    walk_at "v0"
    rw [ts_y (k + 7) a b c d e f S hcd]
    walk_at "v0"
    rw [ts_s (k + 7) a b c d e f S hef]
    walk_at "v0"
    rw [hr]
    walk_at "v0"
  by_cases z1 : b - mkRat 1 2 < 0
  · refine ⟨c, d, fun k => walkP k _ fun k => pick_span1_s k _ _ S z1 _ _ (by omega), hcd, inferInstance, inferInstance, fun k => lpicked1_s k _ _ _ _ S z1 _ _ (by omega), fun x y s h1 h2 h3 h4 h5 h6 => ?_⟩
    rw [if_pos (by grind)]
    exact ⟨h3, h4⟩
  · by_cases z2 : a - mkRat 1 2 < 0
    · refine ⟨rmin c e, rmax d f, fun k => walkP k _ fun k => pick_span3_s k _ _ S c d e f z1 z2 (by omega) (by omega), by unfold rmin rmax; grind, instBtMin.le (by omega), instBtMax.le (by omega), fun k => lpicked3_s k _ _ _ _ S c d e f z1 z2 (by omega) (by omega) hcd hef, fun x y s h1 h2 h3 h4 h5 h6 => ?_⟩
      unfold rmin rmax
      split <;> grind
    · refine ⟨e, f, fun k => walkP k _ fun k => pick_span2_s k _ _ S z1 z2 _ _ (by omega), hef, inferInstance, inferInstance, fun k => lpicked2_s k _ _ _ _ S z1 z2 _ _ (by omega), fun x y s h1 h2 h3 h4 h5 h6 => ?_⟩
      rw [if_neg (by grind)]
      exact ⟨h5, h6⟩
theorem ts_6 : callN pg (k + 22) 46 [T6, insD a b c d, stsD e f] S = .ok (.d (.tuple [fr (rmin a e), fr (rmin b f)])) S := term1 (k + 10) _ _ S _ _ _ (rmin_mono hab hef) (by omega) (mon1 (k + 10) _ _ S atL _ _ (rmin_mono hab hef) (by omega) (at_l k a b c d e f S hab hcd hef))
theorem ts_7 : callN pg (k + 22) 46 [T7, insD a b c d, stsD e f] S = .ok (.d (.tuple [fr (rmax c e), fr (rmax d f)])) S := term1 (k + 10) _ _ S _ _ _ (rmax_mono hcd hef) (by omega) (mon1 (k + 10) _ _ S atM _ _ (rmax_mono hcd hef) (by omega) (at_m k a b c d e f S hab hcd hef))
end
end K03


set_option Elab.async false
set_option linter.all false
set_option linter.unusedSimpArgs false
set_option exponentiation.threshold 20000
set_option maxRecDepth 100000
set_option maxHeartbeats 4000000
namespace K03
open PySem PySem.Spec L2 Mi
/-! KS10: values of terms, corners. -/
theorem bTF : (true == false) = false := rfl
theorem bFT : (false == true) = false := rfl
local macro_rules | `(tactic| walk_at "v1") => `(tactic| try simp (disch := (first | omega | (simp only [List.length_cons, List.length_nil] <;> omega) | fail)) only [e_sNil, e_sSeq, e_sRet, e_sRetN, e_sBrk, e_sCnt, e_sRetV, e_sIf, e_sDrop, e_sAsg, e_sAsg2, e_sPar2, e_sPar3, e_sFor, fornx_nx, fornx_ct, fornx_bk, fornx_rt, e_forL_nil, e_forL_cons, e_gOwn, e_gVal, e_gShare0, e_gsNil, e_gsCons, e_gTpT, e_gTpL, e_gTpF, e_cC, e_vl, e_cVar, e_firstVar, e_firstVal, e_lateVar, e_lateVal, e_cOp1, e_cOp2, e_aNil, e_aCons, e_aStar, e_cTup, e_cLst, e_cCall, e_cCallV, e_fnOf, e_fnOf_, e_cIf, e_tB, e_tTru, e_cNotM, e_tNotM, e_tru1, e_cAnd1, e_cAnd2, e_cOr1, e_cOr2, e_tAnd1, e_tAnd2, e_tOr1, e_tOr2, e_tYes, e_optN, e_optS, e_cCut, e_cTab, e_iVal, e_iVar, e_seqL, e_seqT, e_iRange1, e_iRange2, e_intO, e_strO, e_iZipM, e_zipL, e_zipT, e_pairs, e_pairs0, e_cLc, e_lcN, e_lcC, e_cLc2, e_loN, e_loC, e_cMt1, e_fFlIf, e_fSIf, e_cMt0, e_gSet, e_sAugS, e_lstAt, e_lstFl, e_lstRef0, e_putAt, putO_fl, putO_ref0, e_endRt, e_endNx, le_lim, lt_lim, e_add, e_addT, e_addL, e_sub, e_mul, e_div, e_mod, e_lt, e_le, e_gt, e_ge, e_abs, e_neg, e_int1, e_addI, e_subI, e_truB, e_truI, e_truL, e_truT, e_itT, e_itL, e_lenT, e_lenL, e_tupT, e_tupL, e_appd, e_eqI, e_neI, e_eqS, e_eqB, e_neB, nthD_0, nthD_s, e_ixT, e_ixL, e_ixT0, e_ixT1, e_ixT2, e_ixT3, e_ixT4, e_ixT5, e_ixT6, e_ixT7, e_ixL0, e_ixL1, e_ixL2, e_ixL3, e_ixL4, e_ixL5, e_ixL6, e_ixL7, e_ixR00, e_ixR01, e_ixR02, e_ixR03, e_map, e_atI0, e_atI1, e_atI2, e_atI3, e_ixN0, e_ixN1, e_ixN2, e_ixN3, cut_from0, cut_from1, cut_from2, cut_from3, cut_to0, cut_to1, cut_to2, cut_to3, e_cutT, e_cutL, hide_d, wipe_n, wipe_c, hideG_d, hideG_o, hideG_n, e_kRet, e_kNx, e_kAsg, e_kAsg2b, e_kAsg2, e_kPar2c, e_kPar2b, e_kPar2a, e_kPar3d, e_kPar3c, e_kPar3b, e_kPar3a, e_kFor, e_kForB, e_kAugC, e_kAugB, e_kRetV, e_kToD, e_kFv, e_kOk, e_kOp1c, e_kOp1, e_kOp2d, e_kOp2c, e_kOp2b, e_kOp2a, e_kConsB, e_kCons, e_kStarC, e_kStarB, e_kStarA, e_kStar, e_kTup, e_kLst, e_kCall, e_kCallVB, e_kCallV, e_kOkB, e_kTruB, e_kTru, e_kNotM, e_kTNot, e_kTru1B, e_kTru1, e_kOptB, e_kOpt, e_kCutD, e_kCutC, e_kCutB, e_kCut, e_kOkD, e_kTabB, e_kTab, e_kOkL, e_kIVal, e_kRg1B, e_kRg1, e_kRg2D, e_kRg2C, e_kRg2B, e_kRg2, e_kZipB, e_kZip, e_kLc, e_kLcA, e_kLc2, e_kLoD, e_kLoC, e_kLoA, e_kMtC, e_kMtB, e_kMtA, e_kMt0, e_kSetD, e_kSetC, e_kSetB, e_kSetA, e_kAsG, e_kAsF, e_kAsE, e_kAsD, e_kAsC, e_kAsB, e_kAsA, e_kAs, e_kGs, e_kIfS1, e_kIfS0, cvG_d, cvG_fl, e_kIfE1, e_kIfE0, e_kTB, e_kAndE1, e_kAndE0, e_kOrE1, e_kOrE0, e_ktAnd1, e_ktAnd0, e_ktOr1, e_ktOr0, ivG_fl, ivG_l, ivG_t, e_kLcC, e_kLcB1, e_kLcB0, RcO_ok, e_kLoB1, e_kLoB0, slotO_0, slotO_s, set_0, set_s, ofO_some, ofOF_some, ofRc_ok, RcB_ok, bind_ok, fl_ok, Fl.seq_nx, Fl.seq_rt, Fl.seq_bk, Fl.seq_ct, toD_d, toD_fl, beq_self_eq_true, eq_self, p1018, p1012, p109, cDivS, cModP, Int.reduceMod, Int.reduceSub, Int.reduceAdd, Int.reduceNeg, Int.reduceLT, Int.reduceLE, Int.reduceEq, Int.reduceMul, Int.reduceDiv, List.length_cons, List.length_nil, Nat.reduceAdd, Nat.reduceLT, Nat.reduceLeDiff, Nat.reduceEqDiff, if_true, if_false, Bool.false_eq_true, reduceIte, reduceCtorEq, Nat.zero_lt_succ, Option.bind_some, Option.map_some, Option.isSome_some, List.cons_append, List.nil_append, decide_true, decide_false, Bool.not_true, Bool.not_false, List.isEmpty_nil, List.isEmpty_cons, Nat.zero_add, List.map_cons, List.map_nil, List.drop_succ_cons, List.drop_zero, List.take_succ_cons, List.take_zero, ix_fr0, ix_fr1, fr0, fr1, frm1, fr12, plus_s, minus_s, times_s, less_s, size_s, lesser_s, greater_s, point_s, row0, row1, row2, row3, rngOk, e_eqF, e_neF, e_eqB, bTF, bFT, s_state_input, s_least_input, s_least_state, s_most_input, s_most_state, s_most_least, s_pick_input, s_pick_state, s_pick_least, s_pick_most, s_least_pick, s_most_pick])
section
variable (k : Nat) (x y s : Rat) [Bt x 300] [Bt y 300] [Bt s 300] (S : List Ob)

theorem avt_x (u v z : D) : callN pg (k + 1) 43 [atX, .tuple [u, v], z] S = .ok (.d u) S := by
  rw [c43]; unfold b43 atX
  walk_at "v1"
theorem avt_y (u v z : D) : callN pg (k + 1) 43 [atY, .tuple [u, v], z] S = .ok (.d v) S := by
  rw [c43]; unfold b43 atY
  walk_at "v1"
theorem avt_s (u z : D) : callN pg (k + 1) 43 [atS, u, .tuple [z]] S = .ok (.d z) S := by
  rw [c43]; unfold b43 atS
  walk_at "v1"

theorem avl_x (u v z : D) : callN pg (k + 1) 43 [atX, .list [u, v], z] S = .ok (.d u) S := by
  rw [c43]; unfold b43 atX
  walk_at "v1"
theorem avl_y (u v z : D) : callN pg (k + 1) 43 [atY, .list [u, v], z] S = .ok (.d v) S := by
  rw [c43]; unfold b43 atY
  walk_at "v1"
theorem avl_s (u z : D) : callN pg (k + 1) 43 [atS, u, .list [z]] S = .ok (.d z) S := by
  rw [c43]; unfold b43 atS
  walk_at "v1"

local macro_rules | `(tactic| walk_at "v2") => `(tactic| try simp (disch := (first | omega | (simp only [List.length_cons, List.length_nil] <;> omega) | fail)) only [e_sNil, e_sSeq, e_sRet, e_sRetN, e_sBrk, e_sCnt, e_sRetV, e_sIf, e_sDrop, e_sAsg, e_sAsg2, e_sPar2, e_sPar3, e_sFor, fornx_nx, fornx_ct, fornx_bk, fornx_rt, e_forL_nil, e_forL_cons, e_gOwn, e_gVal, e_gShare0, e_gsNil, e_gsCons, e_gTpT, e_gTpL, e_gTpF, e_cC, e_vl, e_cVar, e_firstVar, e_firstVal, e_lateVar, e_lateVal, e_cOp1, e_cOp2, e_aNil, e_aCons, e_aStar, e_cTup, e_cLst, e_cCall, e_cCallV, e_fnOf, e_fnOf_, e_cIf, e_tB, e_tTru, e_cNotM, e_tNotM, e_tru1, e_cAnd1, e_cAnd2, e_cOr1, e_cOr2, e_tAnd1, e_tAnd2, e_tOr1, e_tOr2, e_tYes, e_optN, e_optS, e_cCut, e_cTab, e_iVal, e_iVar, e_seqL, e_seqT, e_iRange1, e_iRange2, e_intO, e_strO, e_iZipM, e_zipL, e_zipT, e_pairs, e_pairs0, e_cLc, e_lcN, e_lcC, e_cLc2, e_loN, e_loC, e_cMt1, e_fFlIf, e_fSIf, e_cMt0, e_gSet, e_sAugS, e_lstAt, e_lstFl, e_lstRef0, e_putAt, putO_fl, putO_ref0, e_endRt, e_endNx, le_lim, lt_lim, e_add, e_addT, e_addL, e_sub, e_mul, e_div, e_mod, e_lt, e_le, e_gt, e_ge, e_abs, e_neg, e_int1, e_addI, e_subI, e_truB, e_truI, e_truL, e_truT, e_itT, e_itL, e_lenT, e_lenL, e_tupT, e_tupL, e_appd, e_eqI, e_neI, e_eqS, e_eqB, e_neB, nthD_0, nthD_s, e_ixT, e_ixL, e_ixT0, e_ixT1, e_ixT2, e_ixT3, e_ixT4, e_ixT5, e_ixT6, e_ixT7, e_ixL0, e_ixL1, e_ixL2, e_ixL3, e_ixL4, e_ixL5, e_ixL6, e_ixL7, e_ixR00, e_ixR01, e_ixR02, e_ixR03, e_map, e_atI0, e_atI1, e_atI2, e_atI3, e_ixN0, e_ixN1, e_ixN2, e_ixN3, cut_from0, cut_from1, cut_from2, cut_from3, cut_to0, cut_to1, cut_to2, cut_to3, e_cutT, e_cutL, hide_d, wipe_n, wipe_c, hideG_d, hideG_o, hideG_n, e_kRet, e_kNx, e_kAsg, e_kAsg2b, e_kAsg2, e_kPar2c, e_kPar2b, e_kPar2a, e_kPar3d, e_kPar3c, e_kPar3b, e_kPar3a, e_kFor, e_kForB, e_kAugC, e_kAugB, e_kRetV, e_kToD, e_kFv, e_kOk, e_kOp1c, e_kOp1, e_kOp2d, e_kOp2c, e_kOp2b, e_kOp2a, e_kConsB, e_kCons, e_kStarC, e_kStarB, e_kStarA, e_kStar, e_kTup, e_kLst, e_kCall, e_kCallVB, e_kCallV, e_kOkB, e_kTruB, e_kTru, e_kNotM, e_kTNot, e_kTru1B, e_kTru1, e_kOptB, e_kOpt, e_kCutD, e_kCutC, e_kCutB, e_kCut, e_kOkD, e_kTabB, e_kTab, e_kOkL, e_kIVal, e_kRg1B, e_kRg1, e_kRg2D, e_kRg2C, e_kRg2B, e_kRg2, e_kZipB, e_kZip, e_kLc, e_kLcA, e_kLc2, e_kLoD, e_kLoC, e_kLoA, e_kMtC, e_kMtB, e_kMtA, e_kMt0, e_kSetD, e_kSetC, e_kSetB, e_kSetA, e_kAsG, e_kAsF, e_kAsE, e_kAsD, e_kAsC, e_kAsB, e_kAsA, e_kAs, e_kGs, e_kIfS1, e_kIfS0, cvG_d, cvG_fl, e_kIfE1, e_kIfE0, e_kTB, e_kAndE1, e_kAndE0, e_kOrE1, e_kOrE0, e_ktAnd1, e_ktAnd0, e_ktOr1, e_ktOr0, ivG_fl, ivG_l, ivG_t, e_kLcC, e_kLcB1, e_kLcB0, RcO_ok, e_kLoB1, e_kLoB0, slotO_0, slotO_s, set_0, set_s, ofO_some, ofOF_some, ofRc_ok, RcB_ok, bind_ok, fl_ok, Fl.seq_nx, Fl.seq_rt, Fl.seq_bk, Fl.seq_ct, toD_d, toD_fl, beq_self_eq_true, eq_self, p1018, p1012, p109, cDivS, cModP, Int.reduceMod, Int.reduceSub, Int.reduceAdd, Int.reduceNeg, Int.reduceLT, Int.reduceLE, Int.reduceEq, Int.reduceMul, Int.reduceDiv, List.length_cons, List.length_nil, Nat.reduceAdd, Nat.reduceLT, Nat.reduceLeDiff, Nat.reduceEqDiff, if_true, if_false, Bool.false_eq_true, reduceIte, reduceCtorEq, Nat.zero_lt_succ, Option.bind_some, Option.map_some, Option.isSome_some, List.cons_append, List.nil_append, decide_true, decide_false, Bool.not_true, Bool.not_false, List.isEmpty_nil, List.isEmpty_cons, Nat.zero_add, List.map_cons, List.map_nil, List.drop_succ_cons, List.drop_zero, List.take_succ_cons, List.take_zero, avt_x, avt_y, avt_s, avl_x, avl_y, avl_s, ix_fr0, ix_fr1, fr0, fr1, frm1, fr12, plus_s, minus_s, times_s, less_s, size_s, lesser_s, greater_s, point_s, row0, row1, row2, row3, rngOk, e_eqF, e_neF, e_eqB, bTF, bFT, s_state_input, s_least_input, s_least_state, s_most_input, s_most_state, s_most_least, s_pick_input, s_pick_state, s_pick_least, s_pick_most, s_least_pick, s_most_pick])
theorem tvt_1 : callN pg (k + 6) 44 [T1, .tuple [fr x, fr y], .tuple [fr s]] S = .ok (.d (fr (x + y))) S := by
  rw [c44]; unfold b44 T1 mn
  walk_at "v2"
  rw [Rat.one_mul, Rat.one_mul, Rat.zero_add]

theorem tvt_2 : callN pg (k + 6) 44 [T2, .tuple [fr x, fr y], .tuple [fr s]] S = .ok (.d (fr (x - s))) S := by
  rw [c44]; unfold b44 T2 mn
  walk_at "v2"
  rw [show (0 : Rat) + 1 * x + -1 * s = x - s by grind]

theorem tvt_x : callN pg (k + 6) 44 [tX, .tuple [fr x, fr y], .tuple [fr s]] S = .ok (.d (fr (x))) S := by
  rw [c44]; unfold b44 tX mn
  walk_at "v2"
  rw [Rat.one_mul, Rat.zero_add]

theorem tvt_y : callN pg (k + 6) 44 [tY, .tuple [fr x, fr y], .tuple [fr s]] S = .ok (.d (fr (y))) S := by
  rw [c44]; unfold b44 tY mn
  walk_at "v2"
  rw [Rat.one_mul, Rat.zero_add]

theorem tvt_s : callN pg (k + 6) 44 [tS, .tuple [fr x, fr y], .tuple [fr s]] S = .ok (.d (fr (s))) S := by
  rw [c44]; unfold b44 tS mn
  walk_at "v2"
  rw [Rat.one_mul, Rat.zero_add]

theorem tvt_xh : callN pg (k + 6) 44 [tXH, .tuple [fr x, fr y], .tuple [fr s]] S = .ok (.d (fr (x - mkRat 1 2))) S := by
  rw [c44]; unfold b44 tXH mn
  walk_at "v2"
  rw [show (0 : Rat) + mkRat (-1) 2 + 1 * x = x - mkRat 1 2 by rw [show mkRat (-1) 2 = -mkRat 1 2 from rfl]; grind]

theorem tvt_3 : callN pg (k + 6) 44 [T3, .tuple [fr x, fr y], .tuple [fr s]] S = .ok (.d (fr (x * y))) S := by
  rw [c44]; unfold b44 T3 mXY
  walk_at "v2"
  rw [Rat.one_mul, Rat.zero_add]

theorem tvt_4 : callN pg (k + 6) 44 [T4, .tuple [fr x, fr y], .tuple [fr s]] S = .ok (.d (fr (rpow x 3))) S := by
  rw [c44]; unfold b44 T4 mn
  walk_at "v2"
  rw [Rat.zero_add]; rfl

theorem tvt_5 : callN pg (k + 6) 44 [T5, .tuple [fr x, fr y], .tuple [fr s]] S = .ok (.d (fr (rpow s 2))) S := by
  rw [c44]; unfold b44 T5 mn
  walk_at "v2"
  rw [Rat.zero_add]; rfl

theorem tvt_9 : callN pg (k + 6) 44 [T9, .tuple [fr x, fr y], .tuple [fr s]] S = .ok (.d (fr (1))) S := by
  rw [c44]; unfold b44 T9
  walk_at "v2"
  rw [Rat.zero_add]

theorem av_l : callN pg (k + 10) 43 [atL, .tuple [fr x, fr y], .tuple [fr s]] S = .ok (.d (fr (rmin x s))) S := by
  rw [c43, ← rmin_law]; unfold b43 atL
  walk_at "v2"
  rw [tvt_x (k + 3) x y s S]
  walk_at "v2"
  rw [tvt_s (k + 3) x y s S]
  walk_at "v2"
  by_cases z : x < s <;> simp only [z, decide_true, decide_false, if_true, if_false] <;> walk_at "v2"
theorem av_m : callN pg (k + 10) 43 [atM, .tuple [fr x, fr y], .tuple [fr s]] S = .ok (.d (fr (rmax y s))) S := by
  rw [c43]; unfold b43 atM rmax
  walk_at "v2"
  rw [tvt_y (k + 3) x y s S]
  walk_at "v2"
  rw [tvt_s (k + 3) x y s S]
  walk_at "v2"
  by_cases z : y < s <;> simp only [z, decide_true, decide_false, if_true, if_false] <;> walk_at "v2"
theorem av_p : callN pg (k + 10) 43 [atP, .tuple [fr x, fr y], .tuple [fr s]] S = .ok (.d (fr (if x - mkRat 1 2 < 0 then y else s))) S := by
  rw [c43]; unfold b43 atP
  walk_at "v2"
  rw [tvt_xh (k + 3) x y s S]
  walk_at "v2"
  rw [tvt_y (k + 3) x y s S]
  walk_at "v2"
  by_cases z : x - mkRat 1 2 < 0
  · simp only [z, decide_true, if_true]
    walk_at "v2"
  · simp only [z, decide_false, if_false]
    walk_at "v2"
    rw [tvt_s (k + 3) x y s S]
    walk_at "v2"
theorem tv_at (A : D) (q : Rat) {n : Nat} [Bt q n] (hn : n ≤ 2000) (hA : callN pg (k + 10) 43 [A, .tuple [fr x, fr y], .tuple [fr s]] S = .ok (.d (fr q)) S) : callN pg (k + 11) 44 [.tuple [.tuple [mn A 1, fr 1]], .tuple [fr x, fr y], .tuple [fr s]] S = .ok (.d (fr q)) S := by
  rw [c44]; unfold b44 mn
  walk_at "v2"
  rw [hA]
  walk_at "v2"
  rw [Rat.one_mul, Rat.zero_add]
theorem tvt_6 : callN pg (k + 11) 44 [T6, .tuple [fr x, fr y], .tuple [fr s]] S = .ok (.d (fr (rmin x s))) S := tv_at k x y s S atL _ (by omega) (av_l k x y s S)
theorem tvt_7 : callN pg (k + 11) 44 [T7, .tuple [fr x, fr y], .tuple [fr s]] S = .ok (.d (fr (rmax y s))) S := tv_at k x y s S atM _ (by omega) (av_m k x y s S)
theorem tvt_8 : callN pg (k + 11) 44 [T8, .tuple [fr x, fr y], .tuple [fr s]] S = .ok (.d (fr (if x - mkRat 1 2 < 0 then y else s))) S := by
  haveI : Bt (if x - mkRat 1 2 < 0 then y else s) 300 := by split <;> infer_instance
  exact tv_at k x y s S atP _ (by omega) (av_p k x y s S)

theorem tvl_1 : callN pg (k + 6) 44 [T1, .list [fr x, fr y], .list [fr s]] S = .ok (.d (fr (x + y))) S := by
  rw [c44]; unfold b44 T1 mn
  walk_at "v2"
  rw [Rat.one_mul, Rat.one_mul, Rat.zero_add]

theorem tvl_2 : callN pg (k + 6) 44 [T2, .list [fr x, fr y], .list [fr s]] S = .ok (.d (fr (x - s))) S := by
  rw [c44]; unfold b44 T2 mn
  walk_at "v2"
  rw [show (0 : Rat) + 1 * x + -1 * s = x - s by grind]

end
/-! corners -/
section
variable (k : Nat) (S : List Ob)
theorem we_x (p q e : D) (st : D) : callN pg (k + 1) 52 [.list [p, q], st, .str "input", .int 0, e] S = .ok (.d (.tuple [.list [e, q], st])) S := by
  rw [c52]; unfold b52
  walk_at "v1"
theorem we_y (p q e : D) (st : D) : callN pg (k + 1) 52 [.list [p, q], st, .str "input", .int 1, e] S = .ok (.d (.tuple [.list [p, e], st])) S := by
  rw [c52]; unfold b52
  walk_at "v1"
theorem we_s (p e : D) (i : D) : callN pg (k + 1) 52 [i, .list [p], .str "state", .int 0, e] S = .ok (.d (.tuple [i, .list [e]])) S := by
  rw [c52]; unfold b52
  walk_at "v1"
local macro_rules | `(tactic| walk_at "v3") => `(tactic| try simp (disch := (first | omega | (simp only [List.length_cons, List.length_nil] <;> omega) | fail)) only [e_sNil, e_sSeq, e_sRet, e_sRetN, e_sBrk, e_sCnt, e_sRetV, e_sIf, e_sDrop, e_sAsg, e_sAsg2, e_sPar2, e_sPar3, e_sFor, fornx_nx, fornx_ct, fornx_bk, fornx_rt, e_forL_nil, e_forL_cons, e_gOwn, e_gVal, e_gShare0, e_gsNil, e_gsCons, e_gTpT, e_gTpL, e_gTpF, e_cC, e_vl, e_cVar, e_firstVar, e_firstVal, e_lateVar, e_lateVal, e_cOp1, e_cOp2, e_aNil, e_aCons, e_aStar, e_cTup, e_cLst, e_cCall, e_cCallV, e_fnOf, e_fnOf_, e_cIf, e_tB, e_tTru, e_cNotM, e_tNotM, e_tru1, e_cAnd1, e_cAnd2, e_cOr1, e_cOr2, e_tAnd1, e_tAnd2, e_tOr1, e_tOr2, e_tYes, e_optN, e_optS, e_cCut, e_cTab, e_iVal, e_iVar, e_seqL, e_seqT, e_iRange1, e_iRange2, e_intO, e_strO, e_iZipM, e_zipL, e_zipT, e_pairs, e_pairs0, e_cLc, e_lcN, e_lcC, e_cLc2, e_loN, e_loC, e_cMt1, e_fFlIf, e_fSIf, e_cMt0, e_gSet, e_sAugS, e_lstAt, e_lstFl, e_lstRef0, e_putAt, putO_fl, putO_ref0, e_endRt, e_endNx, le_lim, lt_lim, e_add, e_addT, e_addL, e_sub, e_mul, e_div, e_mod, e_lt, e_le, e_gt, e_ge, e_abs, e_neg, e_int1, e_addI, e_subI, e_truB, e_truI, e_truL, e_truT, e_itT, e_itL, e_lenT, e_lenL, e_tupT, e_tupL, e_appd, e_eqI, e_neI, e_eqS, e_eqB, e_neB, nthD_0, nthD_s, e_ixT, e_ixL, e_ixT0, e_ixT1, e_ixT2, e_ixT3, e_ixT4, e_ixT5, e_ixT6, e_ixT7, e_ixL0, e_ixL1, e_ixL2, e_ixL3, e_ixL4, e_ixL5, e_ixL6, e_ixL7, e_ixR00, e_ixR01, e_ixR02, e_ixR03, e_map, e_atI0, e_atI1, e_atI2, e_atI3, e_ixN0, e_ixN1, e_ixN2, e_ixN3, cut_from0, cut_from1, cut_from2, cut_from3, cut_to0, cut_to1, cut_to2, cut_to3, e_cutT, e_cutL, hide_d, wipe_n, wipe_c, hideG_d, hideG_o, hideG_n, e_kRet, e_kNx, e_kAsg, e_kAsg2b, e_kAsg2, e_kPar2c, e_kPar2b, e_kPar2a, e_kPar3d, e_kPar3c, e_kPar3b, e_kPar3a, e_kFor, e_kForB, e_kAugC, e_kAugB, e_kRetV, e_kToD, e_kFv, e_kOk, e_kOp1c, e_kOp1, e_kOp2d, e_kOp2c, e_kOp2b, e_kOp2a, e_kConsB, e_kCons, e_kStarC, e_kStarB, e_kStarA, e_kStar, e_kTup, e_kLst, e_kCall, e_kCallVB, e_kCallV, e_kOkB, e_kTruB, e_kTru, e_kNotM, e_kTNot, e_kTru1B, e_kTru1, e_kOptB, e_kOpt, e_kCutD, e_kCutC, e_kCutB, e_kCut, e_kOkD, e_kTabB, e_kTab, e_kOkL, e_kIVal, e_kRg1B, e_kRg1, e_kRg2D, e_kRg2C, e_kRg2B, e_kRg2, e_kZipB, e_kZip, e_kLc, e_kLcA, e_kLc2, e_kLoD, e_kLoC, e_kLoA, e_kMtC, e_kMtB, e_kMtA, e_kMt0, e_kSetD, e_kSetC, e_kSetB, e_kSetA, e_kAsG, e_kAsF, e_kAsE, e_kAsD, e_kAsC, e_kAsB, e_kAsA, e_kAs, e_kGs, e_kIfS1, e_kIfS0, cvG_d, cvG_fl, e_kIfE1, e_kIfE0, e_kTB, e_kAndE1, e_kAndE0, e_kOrE1, e_kOrE0, e_ktAnd1, e_ktAnd0, e_ktOr1, e_ktOr0, ivG_fl, ivG_l, ivG_t, e_kLcC, e_kLcB1, e_kLcB0, RcO_ok, e_kLoB1, e_kLoB0, slotO_0, slotO_s, set_0, set_s, ofO_some, ofOF_some, ofRc_ok, RcB_ok, bind_ok, fl_ok, Fl.seq_nx, Fl.seq_rt, Fl.seq_bk, Fl.seq_ct, toD_d, toD_fl, beq_self_eq_true, eq_self, p1018, p1012, p109, cDivS, cModP, Int.reduceMod, Int.reduceSub, Int.reduceAdd, Int.reduceNeg, Int.reduceLT, Int.reduceLE, Int.reduceEq, Int.reduceMul, Int.reduceDiv, List.length_cons, List.length_nil, Nat.reduceAdd, Nat.reduceLT, Nat.reduceLeDiff, Nat.reduceEqDiff, if_true, if_false, Bool.false_eq_true, reduceIte, reduceCtorEq, Nat.zero_lt_succ, Option.bind_some, Option.map_some, Option.isSome_some, List.cons_append, List.nil_append, decide_true, decide_false, Bool.not_true, Bool.not_false, List.isEmpty_nil, List.isEmpty_cons, Nat.zero_add, List.map_cons, List.map_nil, List.drop_succ_cons, List.drop_zero, List.take_succ_cons, List.take_zero, we_x, we_y, we_s, cMulS, ix_fr0, ix_fr1, fr0, fr1, frm1, fr12, plus_s, minus_s, times_s, less_s, size_s, lesser_s, greater_s, point_s, row0, row1, row2, row3, rngOk, e_eqF, e_neF, e_eqB, bTF, bFT, s_state_input, s_least_input, s_least_state, s_most_input, s_most_state, s_most_least, s_pick_input, s_pick_state, s_pick_least, s_pick_most, s_least_pick, s_most_pick])
theorem co_1 (a b c d e f : D) : callN pg (k + 12) 51 [T1, .tuple [.tuple [a, b], .tuple [c, d]], .tuple [.tuple [e, f]]] S = .ok (.d (.list [.tuple [.list [a, c], .list [e]], .tuple [.list [a, d], .list [e]], .tuple [.list [b, c], .list [e]], .tuple [.list [b, d], .list [e]]])) S := by
  rw [c51]; unfold b51
  walk_at "v3"
  rw [a_1 (k + 1)]
  unfold atX atY
  walk_at "v3"
theorem co_2 (a b c d e f : D) : callN pg (k + 12) 51 [T2, .tuple [.tuple [a, b], .tuple [c, d]], .tuple [.tuple [e, f]]] S = .ok (.d (.list [.tuple [.list [a, c], .list [e]], .tuple [.list [a, c], .list [f]], .tuple [.list [b, c], .list [e]], .tuple [.list [b, c], .list [f]]])) S := by
  rw [c51]; unfold b51
  walk_at "v3"
  rw [a_2 (k + 1)]
  unfold atX atS
  walk_at "v3"
end
section
variable (k : Nat) (a b c d e f : Rat) [Bt a 90] [Bt b 90] [Bt c 90] [Bt d 90] [Bt e 90] [Bt f 90] (S : List Ob) (hab : a ≤ b) (hcd : c ≤ d) (hef : e ≤ f)
include hab hcd hef
local macro_rules | `(tactic| walk_at "v4") => `(tactic| try simp (disch := (first | omega | (simp only [List.length_cons, List.length_nil] <;> omega) | fail)) only [e_sNil, e_sSeq, e_sRet, e_sRetN, e_sBrk, e_sCnt, e_sRetV, e_sIf, e_sDrop, e_sAsg, e_sAsg2, e_sPar2, e_sPar3, e_sFor, fornx_nx, fornx_ct, fornx_bk, fornx_rt, e_forL_nil, e_forL_cons, e_gOwn, e_gVal, e_gShare0, e_gsNil, e_gsCons, e_gTpT, e_gTpL, e_gTpF, e_cC, e_vl, e_cVar, e_firstVar, e_firstVal, e_lateVar, e_lateVal, e_cOp1, e_cOp2, e_aNil, e_aCons, e_aStar, e_cTup, e_cLst, e_cCall, e_cCallV, e_fnOf, e_fnOf_, e_cIf, e_tB, e_tTru, e_cNotM, e_tNotM, e_tru1, e_cAnd1, e_cAnd2, e_cOr1, e_cOr2, e_tAnd1, e_tAnd2, e_tOr1, e_tOr2, e_tYes, e_optN, e_optS, e_cCut, e_cTab, e_iVal, e_iVar, e_seqL, e_seqT, e_iRange1, e_iRange2, e_intO, e_strO, e_iZipM, e_zipL, e_zipT, e_pairs, e_pairs0, e_cLc, e_lcN, e_lcC, e_cLc2, e_loN, e_loC, e_cMt1, e_fFlIf, e_fSIf, e_cMt0, e_gSet, e_sAugS, e_lstAt, e_lstFl, e_lstRef0, e_putAt, putO_fl, putO_ref0, e_endRt, e_endNx, le_lim, lt_lim, e_add, e_addT, e_addL, e_sub, e_mul, e_div, e_mod, e_lt, e_le, e_gt, e_ge, e_abs, e_neg, e_int1, e_addI, e_subI, e_truB, e_truI, e_truL, e_truT, e_itT, e_itL, e_lenT, e_lenL, e_tupT, e_tupL, e_appd, e_eqI, e_neI, e_eqS, e_eqB, e_neB, nthD_0, nthD_s, e_ixT, e_ixL, e_ixT0, e_ixT1, e_ixT2, e_ixT3, e_ixT4, e_ixT5, e_ixT6, e_ixT7, e_ixL0, e_ixL1, e_ixL2, e_ixL3, e_ixL4, e_ixL5, e_ixL6, e_ixL7, e_ixR00, e_ixR01, e_ixR02, e_ixR03, e_map, e_atI0, e_atI1, e_atI2, e_atI3, e_ixN0, e_ixN1, e_ixN2, e_ixN3, cut_from0, cut_from1, cut_from2, cut_from3, cut_to0, cut_to1, cut_to2, cut_to3, e_cutT, e_cutL, hide_d, wipe_n, wipe_c, hideG_d, hideG_o, hideG_n, e_kRet, e_kNx, e_kAsg, e_kAsg2b, e_kAsg2, e_kPar2c, e_kPar2b, e_kPar2a, e_kPar3d, e_kPar3c, e_kPar3b, e_kPar3a, e_kFor, e_kForB, e_kAugC, e_kAugB, e_kRetV, e_kToD, e_kFv, e_kOk, e_kOp1c, e_kOp1, e_kOp2d, e_kOp2c, e_kOp2b, e_kOp2a, e_kConsB, e_kCons, e_kStarC, e_kStarB, e_kStarA, e_kStar, e_kTup, e_kLst, e_kCall, e_kCallVB, e_kCallV, e_kOkB, e_kTruB, e_kTru, e_kNotM, e_kTNot, e_kTru1B, e_kTru1, e_kOptB, e_kOpt, e_kCutD, e_kCutC, e_kCutB, e_kCut, e_kOkD, e_kTabB, e_kTab, e_kOkL, e_kIVal, e_kRg1B, e_kRg1, e_kRg2D, e_kRg2C, e_kRg2B, e_kRg2, e_kZipB, e_kZip, e_kLc, e_kLcA, e_kLc2, e_kLoD, e_kLoC, e_kLoA, e_kMtC, e_kMtB, e_kMtA, e_kMt0, e_kSetD, e_kSetC, e_kSetB, e_kSetA, e_kAsG, e_kAsF, e_kAsE, e_kAsD, e_kAsC, e_kAsB, e_kAsA, e_kAs, e_kGs, e_kIfS1, e_kIfS0, cvG_d, cvG_fl, e_kIfE1, e_kIfE0, e_kTB, e_kAndE1, e_kAndE0, e_kOrE1, e_kOrE0, e_ktAnd1, e_ktAnd0, e_ktOr1, e_ktOr0, ivG_fl, ivG_l, ivG_t, e_kLcC, e_kLcB1, e_kLcB0, RcO_ok, e_kLoB1, e_kLoB0, slotO_0, slotO_s, set_0, set_s, ofO_some, ofOF_some, ofRc_ok, RcB_ok, bind_ok, fl_ok, Fl.seq_nx, Fl.seq_rt, Fl.seq_bk, Fl.seq_ct, toD_d, toD_fl, beq_self_eq_true, eq_self, p1018, p1012, p109, cDivS, cModP, Int.reduceMod, Int.reduceSub, Int.reduceAdd, Int.reduceNeg, Int.reduceLT, Int.reduceLE, Int.reduceEq, Int.reduceMul, Int.reduceDiv, List.length_cons, List.length_nil, Nat.reduceAdd, Nat.reduceLT, Nat.reduceLeDiff, Nat.reduceEqDiff, if_true, if_false, Bool.false_eq_true, reduceIte, reduceCtorEq, Nat.zero_lt_succ, Option.bind_some, Option.map_some, Option.isSome_some, List.cons_append, List.nil_append, decide_true, decide_false, Bool.not_true, Bool.not_false, List.isEmpty_nil, List.isEmpty_cons, Nat.zero_add, List.map_cons, List.map_nil, List.drop_succ_cons, List.drop_zero, List.take_succ_cons, List.take_zero, tvl_1, tvl_2, span4_s, ix_fr0, ix_fr1, fr0, fr1, frm1, fr12, plus_s, minus_s, times_s, less_s, size_s, lesser_s, greater_s, point_s, row0, row1, row2, row3, rngOk, e_eqF, e_neF, e_eqB, bTF, bFT, s_state_input, s_least_input, s_least_state, s_most_input, s_most_state, s_most_least, s_pick_input, s_pick_state, s_pick_least, s_pick_most, s_least_pick, s_most_pick])
theorem cs_1 : callN pg (k + 14) 53 [T1, insD a b c d, stsD e f] S = .ok (.d (.tuple [fr (a + c), fr (b + d)])) S := by
  have m1 : rmin (rmin (rmin (a + c) (a + d)) (b + c)) (b + d) = a + c := by unfold rmin; grind
  have m2 : rmax (rmax (rmax (a + c) (a + d)) (b + c)) (b + d) = b + d := by unfold rmax; grind
  have t := fun (x y s : Rat) (_ : Bt x 90) (_ : Bt y 90) (_ : Bt s 90) => @tvl_1 (k + 7) x y s (Bt.le ‹Bt x 90› (by omega)) (Bt.le ‹Bt y 90› (by omega)) (Bt.le ‹Bt s 90› (by omega)) S
  rw [c53]; unfold b53
  walk_at "v1"
  rw [co_1 (k + 1)]
  walk_at "v1"
  rw [t a c e inferInstance inferInstance inferInstance]
  walk_at "v1"
  rw [t a d e inferInstance inferInstance inferInstance]
  walk_at "v1"
  rw [t b c e inferInstance inferInstance inferInstance]
  walk_at "v1"
  rw [t b d e inferInstance inferInstance inferInstance]
  walk_at "v1"
  rw [span4_s (k + 10) _ _ _ _ S (by omega), m1, m2]
  walk_at "v1"
theorem cs_2 : callN pg (k + 14) 53 [T2, insD a b c d, stsD e f] S = .ok (.d (.tuple [fr (a - f), fr (b - e)])) S := by
  have m1 : rmin (rmin (rmin (a - e) (a - f)) (b - e)) (b - f) = a - f := by unfold rmin; grind
  have m2 : rmax (rmax (rmax (a - e) (a - f)) (b - e)) (b - f) = b - e := by unfold rmax; grind
  have t := fun (x y s : Rat) (_ : Bt x 90) (_ : Bt y 90) (_ : Bt s 90) => @tvl_2 (k + 7) x y s (Bt.le ‹Bt x 90› (by omega)) (Bt.le ‹Bt y 90› (by omega)) (Bt.le ‹Bt s 90› (by omega)) S
  rw [c53]; unfold b53
  walk_at "v1"
  rw [co_2 (k + 1)]
  walk_at "v1"
  rw [t a c e inferInstance inferInstance inferInstance]
  walk_at "v1"
  rw [t a c f inferInstance inferInstance inferInstance]
  walk_at "v1"
  rw [t b c e inferInstance inferInstance inferInstance]
  walk_at "v1"
  rw [t b c f inferInstance inferInstance inferInstance]
  walk_at "v1"
  rw [span4_s (k + 10) _ _ _ _ S (by omega), m1, m2]
  walk_at "v1"
end
end K03


set_option Elab.async false
set_option linter.all false
set_option linter.unusedSimpArgs false
set_option exponentiation.threshold 20000
set_option maxRecDepth 100000
set_option maxHeartbeats 4000000
namespace K03
open PySem PySem.Spec L2 Mi
/-! KS11: the intervals of two are as told; parts and powers. -/
theorem goodF (q : Rat) : good (fr q) = true := rfl
theorem szF (q : Rat) : sz (fr q) = 3 := rfl
local macro_rules | `(tactic| walk_at "x1") => `(tactic| try simp (disch := (first | omega | (simp only [List.length_cons, List.length_nil] <;> omega) | fail)) only [e_sNil, e_sSeq, e_sRet, e_sRetN, e_sBrk, e_sCnt, e_sRetV, e_sIf, e_sDrop, e_sAsg, e_sAsg2, e_sPar2, e_sPar3, e_sFor, fornx_nx, fornx_ct, fornx_bk, fornx_rt, e_forL_nil, e_forL_cons, e_gOwn, e_gVal, e_gShare0, e_gsNil, e_gsCons, e_gTpT, e_gTpL, e_gTpF, e_cC, e_vl, e_cVar, e_firstVar, e_firstVal, e_lateVar, e_lateVal, e_cOp1, e_cOp2, e_aNil, e_aCons, e_aStar, e_cTup, e_cLst, e_cCall, e_cCallV, e_fnOf, e_fnOf_, e_cIf, e_tB, e_tTru, e_cNotM, e_tNotM, e_tru1, e_cAnd1, e_cAnd2, e_cOr1, e_cOr2, e_tAnd1, e_tAnd2, e_tOr1, e_tOr2, e_tYes, e_optN, e_optS, e_cCut, e_cTab, e_iVal, e_iVar, e_seqL, e_seqT, e_iRange1, e_iRange2, e_intO, e_strO, e_iZipM, e_zipL, e_zipT, e_pairs, e_pairs0, e_cLc, e_lcN, e_lcC, e_cLc2, e_loN, e_loC, e_cMt1, e_fFlIf, e_fSIf, e_cMt0, e_gSet, e_sAugS, e_lstAt, e_lstFl, e_lstRef0, e_putAt, putO_fl, putO_ref0, e_endRt, e_endNx, le_lim, lt_lim, e_add, e_addT, e_addL, e_sub, e_mul, e_div, e_mod, e_lt, e_le, e_gt, e_ge, e_abs, e_neg, e_int1, e_addI, e_subI, e_truB, e_truI, e_truL, e_truT, e_itT, e_itL, e_lenT, e_lenL, e_tupT, e_tupL, e_appd, e_eqI, e_neI, e_eqS, e_eqB, e_neB, nthD_0, nthD_s, e_ixT, e_ixL, e_ixT0, e_ixT1, e_ixT2, e_ixT3, e_ixT4, e_ixT5, e_ixT6, e_ixT7, e_ixL0, e_ixL1, e_ixL2, e_ixL3, e_ixL4, e_ixL5, e_ixL6, e_ixL7, e_ixR00, e_ixR01, e_ixR02, e_ixR03, e_map, e_atI0, e_atI1, e_atI2, e_atI3, e_ixN0, e_ixN1, e_ixN2, e_ixN3, cut_from0, cut_from1, cut_from2, cut_from3, cut_to0, cut_to1, cut_to2, cut_to3, e_cutT, e_cutL, hide_d, wipe_n, wipe_c, hideG_d, hideG_o, hideG_n, e_kRet, e_kNx, e_kAsg, e_kAsg2b, e_kAsg2, e_kPar2c, e_kPar2b, e_kPar2a, e_kPar3d, e_kPar3c, e_kPar3b, e_kPar3a, e_kFor, e_kForB, e_kAugC, e_kAugB, e_kRetV, e_kToD, e_kFv, e_kOk, e_kOp1c, e_kOp1, e_kOp2d, e_kOp2c, e_kOp2b, e_kOp2a, e_kConsB, e_kCons, e_kStarC, e_kStarB, e_kStarA, e_kStar, e_kTup, e_kLst, e_kCall, e_kCallVB, e_kCallV, e_kOkB, e_kTruB, e_kTru, e_kNotM, e_kTNot, e_kTru1B, e_kTru1, e_kOptB, e_kOpt, e_kCutD, e_kCutC, e_kCutB, e_kCut, e_kOkD, e_kTabB, e_kTab, e_kOkL, e_kIVal, e_kRg1B, e_kRg1, e_kRg2D, e_kRg2C, e_kRg2B, e_kRg2, e_kZipB, e_kZip, e_kLc, e_kLcA, e_kLc2, e_kLoD, e_kLoC, e_kLoA, e_kMtC, e_kMtB, e_kMtA, e_kMt0, e_kSetD, e_kSetC, e_kSetB, e_kSetA, e_kAsG, e_kAsF, e_kAsE, e_kAsD, e_kAsC, e_kAsB, e_kAsA, e_kAs, e_kGs, e_kIfS1, e_kIfS0, cvG_d, cvG_fl, e_kIfE1, e_kIfE0, e_kTB, e_kAndE1, e_kAndE0, e_kOrE1, e_kOrE0, e_ktAnd1, e_ktAnd0, e_ktOr1, e_ktOr0, ivG_fl, ivG_l, ivG_t, e_kLcC, e_kLcB1, e_kLcB0, RcO_ok, e_kLoB1, e_kLoB0, slotO_0, slotO_s, set_0, set_s, ofO_some, ofOF_some, ofRc_ok, RcB_ok, bind_ok, fl_ok, Fl.seq_nx, Fl.seq_rt, Fl.seq_bk, Fl.seq_ct, toD_d, toD_fl, beq_self_eq_true, eq_self, p1018, p1012, p109, cDivS, cModP, Int.reduceMod, Int.reduceSub, Int.reduceAdd, Int.reduceNeg, Int.reduceLT, Int.reduceLE, Int.reduceEq, Int.reduceMul, Int.reduceDiv, List.length_cons, List.length_nil, Nat.reduceAdd, Nat.reduceLT, Nat.reduceLeDiff, Nat.reduceEqDiff, if_true, if_false, Bool.false_eq_true, reduceIte, reduceCtorEq, Nat.zero_lt_succ, Option.bind_some, Option.map_some, Option.isSome_some, List.cons_append, List.nil_append, decide_true, decide_false, Bool.not_true, Bool.not_false, List.isEmpty_nil, List.isEmpty_cons, Nat.zero_add, List.map_cons, List.map_nil, List.drop_succ_cons, List.drop_zero, List.take_succ_cons, List.take_zero, ix_fr0, ix_fr1, fr0, fr1, plus_span_s, minus_span_s, times_span_s, least_span_s, most_span_s, joined_span_s, point_s, wider_s, far_s, wide_s, holds_s, inside_s, span4_s, span1_s, lfour_s, llesser_s, lgreater_s, lspan_mul_s, lsub_s, ladd_s, lfar_s, lholds_s, least_of4_s])
theorem inside_true {a b c d : Rat} (hab : a ≤ b) : (inB (rmin a c) (rmax b d) a && inB (rmin a c) (rmax b d) b) = true := by
  have h1 := rmin_le_l a c
  have h2 := le_rmax_l b d
  unfold inB
  simp only [Bool.and_eq_true, Bool.not_eq_true', decide_eq_false_iff_not, Rat.not_lt]
  exact ⟨⟨h1, by grind⟩, by grind, h2⟩
theorem spans_good_s (k : Nat) (a b c d e x : Rat) [Bt a 90] [Bt b 90] [Bt c 90] [Bt d 90] [Bt e 90] [Bt x 300] (S : List Ob) (hab : a ≤ b) : callN pg (k + 10) 85 [.tuple [fr a, fr b], .tuple [fr c, fr d], fr e, fr x] S = .ok (.d (.bool true)) S := by
  have hin := inside_true (c := c) (d := d) hab
  rw [c85]; unfold b85
  cases z : inB c d a
  · walk_at "x1"
    simp only [z, hin, Bool.false_and]
    walk_at "x1"
    rw [alike_s (k + 8) _ ?_ ?_]
    · walk_at "x1"
    · simp only [good, goodL, goodF, Bool.true_and, Bool.and_true, Bool.and_self]
    · simp only [sz, szL, szF]; omega
  · walk_at "x1"
    simp only [z, hin, Bool.true_and]
    walk_at "x1"
    rw [alike_s (k + 8) _ ?_ ?_]
    · walk_at "x1"
    · simp only [good, goodL, goodF, Bool.true_and, Bool.and_true, Bool.and_self]
    · simp only [sz, szL, szF]; omega
/-! parts -/
theorem mk_succ (i p : Nat) (h : p ≠ 0) : mkRat ((i + 1 : Nat) : Int) p = mkRat i p + mkRat 1 p := by
  rw [← Rat.divInt_ofNat, ← Rat.divInt_ofNat, ← Rat.divInt_ofNat, Rat.divInt_eq_div, Rat.divInt_eq_div, Rat.divInt_eq_div]
  have hp : ((p : Int) : Rat) ≠ 0 := by
    intro z
    have : (p : Int) = 0 := by exact_mod_cast z
    omega
  have : (((i + 1 : Nat) : Int) : Rat) = ((i : Int) : Rat) + 1 := by push_cast; rfl
  rw [this]
  grind
theorem mk_zero (p : Nat) : mkRat 0 p = 0 := Rat.zero_mkRat p
theorem mk_self (p : Nat) (h : p ≠ 0) : mkRat p p = 1 := by
  apply Rat.ext
  · rw [Rat.num_mkRat, if_neg h, Int.natAbs_natCast, Nat.gcd_self]
    exact Int.ediv_self (by omega)
  · rw [Rat.den_mkRat, if_neg h, Int.natAbs_natCast, Nat.gcd_self]
    exact Nat.div_self (by omega)
def rowR (i : Nat) : Nat → List D
  | 0 => []
  | n + 1 => .int (i : Int) :: rowR (i + 1) n
theorem row_eq (n : Nat) : ∀ i : Nat, ((List.range' i n).map fun (j : Nat) => PyData.int ((j : Nat) : Int)) = rowR i n := by
  induction n with
  | zero => intro i; rfl
  | succ n ih => intro i; rw [List.range'_succ, List.map_cons, ih (i + 1)]; rfl
theorem rowI_R (n : Nat) : rowI 0 n = rowR 0 n := by
  rw [← row_eq]
  unfold rowI
  rw [List.range_eq_range']
  refine List.map_congr_left fun j _ => ?_
  rw [Int.zero_add]
def wP (call : Calls) : St' := (sSeq (sAsg (gNm 7 .own) (cCall call 66 (aCons (cOp2 fIx (.var 1) (.val (cC (.int (0))))) (aCons (cCall call 68 (aCons (cVar 4) (aCons (cCall call 65 (aCons (cOp2 fAdd (.var 6) (.val (cC (.int (1))))) (aCons (cVar 2) aNil))) aNil))) aNil)))) (sSeq (sIf (tNotM (tTru (.val (cCall call 64 (aCons (cCall call 24 (aCons (cVar 1) (aCons (cVar 2) (aCons (cVar 6) aNil)))) (aCons (cTup (aCons (cVar 5) (aCons (cVar 7) aNil))) aNil)))))) (sRet (cC (.bool false))) sNil) (sAsg (gNm 5 .own) (cVar 7))))
local macro_rules | `(tactic| walk_at "x2") => `(tactic| try simp (disch := (first | omega | (simp only [List.length_cons, List.length_nil] <;> omega) | fail)) only [e_sNil, e_sSeq, e_sRet, e_sRetN, e_sBrk, e_sCnt, e_sRetV, e_sIf, e_sDrop, e_sAsg, e_sAsg2, e_sPar2, e_sPar3, e_sFor, fornx_nx, fornx_ct, fornx_bk, fornx_rt, e_forL_nil, e_forL_cons, e_gOwn, e_gVal, e_gShare0, e_gsNil, e_gsCons, e_gTpT, e_gTpL, e_gTpF, e_cC, e_vl, e_cVar, e_firstVar, e_firstVal, e_lateVar, e_lateVal, e_cOp1, e_cOp2, e_aNil, e_aCons, e_aStar, e_cTup, e_cLst, e_cCall, e_cCallV, e_fnOf, e_fnOf_, e_cIf, e_tB, e_tTru, e_cNotM, e_tNotM, e_tru1, e_cAnd1, e_cAnd2, e_cOr1, e_cOr2, e_tAnd1, e_tAnd2, e_tOr1, e_tOr2, e_tYes, e_optN, e_optS, e_cCut, e_cTab, e_iVal, e_iVar, e_seqL, e_seqT, e_iRange1, e_iRange2, e_intO, e_strO, e_iZipM, e_zipL, e_zipT, e_pairs, e_pairs0, e_cLc, e_lcN, e_lcC, e_cLc2, e_loN, e_loC, e_cMt1, e_fFlIf, e_fSIf, e_cMt0, e_gSet, e_sAugS, e_lstAt, e_lstFl, e_lstRef0, e_putAt, putO_fl, putO_ref0, e_endRt, e_endNx, le_lim, lt_lim, e_add, e_addT, e_addL, e_sub, e_mul, e_div, e_mod, e_lt, e_le, e_gt, e_ge, e_abs, e_neg, e_int1, e_addI, e_subI, e_truB, e_truI, e_truL, e_truT, e_itT, e_itL, e_lenT, e_lenL, e_tupT, e_tupL, e_appd, e_eqI, e_neI, e_eqS, e_eqB, e_neB, nthD_0, nthD_s, e_ixT, e_ixL, e_ixT0, e_ixT1, e_ixT2, e_ixT3, e_ixT4, e_ixT5, e_ixT6, e_ixT7, e_ixL0, e_ixL1, e_ixL2, e_ixL3, e_ixL4, e_ixL5, e_ixL6, e_ixL7, e_ixR00, e_ixR01, e_ixR02, e_ixR03, e_map, e_atI0, e_atI1, e_atI2, e_atI3, e_ixN0, e_ixN1, e_ixN2, e_ixN3, cut_from0, cut_from1, cut_from2, cut_from3, cut_to0, cut_to1, cut_to2, cut_to3, e_cutT, e_cutL, hide_d, wipe_n, wipe_c, hideG_d, hideG_o, hideG_n, e_kRet, e_kNx, e_kAsg, e_kAsg2b, e_kAsg2, e_kPar2c, e_kPar2b, e_kPar2a, e_kPar3d, e_kPar3c, e_kPar3b, e_kPar3a, e_kFor, e_kForB, e_kAugC, e_kAugB, e_kRetV, e_kToD, e_kFv, e_kOk, e_kOp1c, e_kOp1, e_kOp2d, e_kOp2c, e_kOp2b, e_kOp2a, e_kConsB, e_kCons, e_kStarC, e_kStarB, e_kStarA, e_kStar, e_kTup, e_kLst, e_kCall, e_kCallVB, e_kCallV, e_kOkB, e_kTruB, e_kTru, e_kNotM, e_kTNot, e_kTru1B, e_kTru1, e_kOptB, e_kOpt, e_kCutD, e_kCutC, e_kCutB, e_kCut, e_kOkD, e_kTabB, e_kTab, e_kOkL, e_kIVal, e_kRg1B, e_kRg1, e_kRg2D, e_kRg2C, e_kRg2B, e_kRg2, e_kZipB, e_kZip, e_kLc, e_kLcA, e_kLc2, e_kLoD, e_kLoC, e_kLoA, e_kMtC, e_kMtB, e_kMtA, e_kMt0, e_kSetD, e_kSetC, e_kSetB, e_kSetA, e_kAsG, e_kAsF, e_kAsE, e_kAsD, e_kAsC, e_kAsB, e_kAsA, e_kAs, e_kGs, e_kIfS1, e_kIfS0, cvG_d, cvG_fl, e_kIfE1, e_kIfE0, e_kTB, e_kAndE1, e_kAndE0, e_kOrE1, e_kOrE0, e_ktAnd1, e_ktAnd0, e_ktOr1, e_ktOr0, ivG_fl, ivG_l, ivG_t, e_kLcC, e_kLcB1, e_kLcB0, RcO_ok, e_kLoB1, e_kLoB0, slotO_0, slotO_s, set_0, set_s, ofO_some, ofOF_some, ofRc_ok, RcB_ok, bind_ok, fl_ok, Fl.seq_nx, Fl.seq_rt, Fl.seq_bk, Fl.seq_ct, toD_d, toD_fl, beq_self_eq_true, eq_self, p1018, p1012, p109, cDivS, cModP, Int.reduceMod, Int.reduceSub, Int.reduceAdd, Int.reduceNeg, Int.reduceLT, Int.reduceLE, Int.reduceEq, Int.reduceMul, Int.reduceDiv, List.length_cons, List.length_nil, Nat.reduceAdd, Nat.reduceLT, Nat.reduceLeDiff, Nat.reduceEqDiff, if_true, if_false, Bool.false_eq_true, reduceIte, reduceCtorEq, Nat.zero_lt_succ, Option.bind_some, Option.map_some, Option.isSome_some, List.cons_append, List.nil_append, decide_true, decide_false, Bool.not_true, Bool.not_false, List.isEmpty_nil, List.isEmpty_cons, Nat.zero_add, List.map_cons, List.map_nil, List.drop_succ_cons, List.drop_zero, List.take_succ_cons, List.take_zero, ix_fr0, ix_fr1, fr0, fr1, ladd_s, lmul_s, lmade_s, part_s])
theorem parts_go (k : Nat) (a b : Rat) [Bt a 90] [Bt b 90] (S : List Ob) (o0 o3 : Option GV) (p : Nat) (hp : p ≠ 0) (hp2 : p ≤ 9) : ∀ (n i : Nat) (o6 o7 : Option GV), i + n = p →
    ∃ o6' o7', forL (gNm 6 .own) (wP (callN pg (k + 8))) (rowR i n) ⟨[o0, some (.d (.tuple [fr a, fr b])), some (.d (.int (p : Int))), o3, some (.d (fr (b - a))), some (.d (fr (a + (b - a) * mkRat i p))), o6, o7], S⟩ =
      .nx ⟨[o0, some (.d (.tuple [fr a, fr b])), some (.d (.int (p : Int))), o3, some (.d (fr (b - a))), some (.d (fr (a + (b - a) * mkRat p p))), o6', o7'], S⟩
  | 0, i, o6, o7, h => ⟨o6, o7, by
    obtain rfl : i = p := by omega
    unfold rowR
    walk_at "x2"⟩
  | n + 1, i, o6, o7, h => by
    obtain ⟨o6', o7', ih⟩ := parts_go k a b S o0 o3 p hp hp2 n (i + 1) (some (.d (.int (i : Int)))) (some (.d (fr (a + (b - a) * mkRat ((i + 1 : Nat) : Int) p)))) (by omega)
    refine ⟨o6', o7', ?_⟩
    haveI : Bt (mkRat i p) 10 := bt_mk hp (by omega) (by omega)
    haveI : Bt (mkRat ((i + 1 : Nat) : Int) p) 10 := bt_mk hp (by omega) (by omega)
    have e1 : (i : Int) + 1 = ((i + 1 : Nat) : Int) := by omega
    have e2 : a + (b - a) * mkRat i p + (b - a) * mkRat 1 p = a + (b - a) * mkRat ((i + 1 : Nat) : Int) p := by rw [mk_succ i p hp]; grind
    have st : wP (callN pg (k + 8)) ⟨[o0, some (.d (.tuple [fr a, fr b])), some (.d (.int (p : Int))), o3, some (.d (fr (b - a))), some (.d (fr (a + (b - a) * mkRat i p))), some (.d (.int (i : Int))), o7], S⟩ =
        .nx ⟨[o0, some (.d (.tuple [fr a, fr b])), some (.d (.int (p : Int))), o3, some (.d (fr (b - a))), some (.d (fr (a + (b - a) * mkRat ((i + 1 : Nat) : Int) p))), some (.d (.int (i : Int))), some (.d (fr (a + (b - a) * mkRat ((i + 1 : Nat) : Int) p)))], S⟩ := by
      unfold wP
      walk_at "x2"
      rw [e1]
      walk_at "x2"
      rw [e2]
      rw [alike_s _ (.tuple [fr (a + (b - a) * mkRat i p), fr (a + (b - a) * mkRat ((i + 1 : Nat) : Int) p)]) rfl (by simp only [sz, szL, szF]; omega)]
      walk_at "x2"
    show forL _ _ (PyData.int (i : Int) :: rowR (i + 1) n) _ = _
    rw [e_forL_cons]
    walk_at "x2"
    rw [st]
    walk_at "x2"
    exact ih
local macro_rules | `(tactic| walk_at "x3") => `(tactic| try simp (disch := (first | omega | (simp only [List.length_cons, List.length_nil] <;> omega) | fail)) only [e_sNil, e_sSeq, e_sRet, e_sRetN, e_sBrk, e_sCnt, e_sRetV, e_sIf, e_sDrop, e_sAsg, e_sAsg2, e_sPar2, e_sPar3, e_sFor, fornx_nx, fornx_ct, fornx_bk, fornx_rt, e_forL_nil, e_forL_cons, e_gOwn, e_gVal, e_gShare0, e_gsNil, e_gsCons, e_gTpT, e_gTpL, e_gTpF, e_cC, e_vl, e_cVar, e_firstVar, e_firstVal, e_lateVar, e_lateVal, e_cOp1, e_cOp2, e_aNil, e_aCons, e_aStar, e_cTup, e_cLst, e_cCall, e_cCallV, e_fnOf, e_fnOf_, e_cIf, e_tB, e_tTru, e_cNotM, e_tNotM, e_tru1, e_cAnd1, e_cAnd2, e_cOr1, e_cOr2, e_tAnd1, e_tAnd2, e_tOr1, e_tOr2, e_tYes, e_optN, e_optS, e_cCut, e_cTab, e_iVal, e_iVar, e_seqL, e_seqT, e_iRange1, e_iRange2, e_intO, e_strO, e_iZipM, e_zipL, e_zipT, e_pairs, e_pairs0, e_cLc, e_lcN, e_lcC, e_cLc2, e_loN, e_loC, e_cMt1, e_fFlIf, e_fSIf, e_cMt0, e_gSet, e_sAugS, e_lstAt, e_lstFl, e_lstRef0, e_putAt, putO_fl, putO_ref0, e_endRt, e_endNx, le_lim, lt_lim, e_add, e_addT, e_addL, e_sub, e_mul, e_div, e_mod, e_lt, e_le, e_gt, e_ge, e_abs, e_neg, e_int1, e_addI, e_subI, e_truB, e_truI, e_truL, e_truT, e_itT, e_itL, e_lenT, e_lenL, e_tupT, e_tupL, e_appd, e_eqI, e_neI, e_eqS, e_eqB, e_neB, nthD_0, nthD_s, e_ixT, e_ixL, e_ixT0, e_ixT1, e_ixT2, e_ixT3, e_ixT4, e_ixT5, e_ixT6, e_ixT7, e_ixL0, e_ixL1, e_ixL2, e_ixL3, e_ixL4, e_ixL5, e_ixL6, e_ixL7, e_ixR00, e_ixR01, e_ixR02, e_ixR03, e_map, e_atI0, e_atI1, e_atI2, e_atI3, e_ixN0, e_ixN1, e_ixN2, e_ixN3, cut_from0, cut_from1, cut_from2, cut_from3, cut_to0, cut_to1, cut_to2, cut_to3, e_cutT, e_cutL, hide_d, wipe_n, wipe_c, hideG_d, hideG_o, hideG_n, e_kRet, e_kNx, e_kAsg, e_kAsg2b, e_kAsg2, e_kPar2c, e_kPar2b, e_kPar2a, e_kPar3d, e_kPar3c, e_kPar3b, e_kPar3a, e_kFor, e_kForB, e_kAugC, e_kAugB, e_kRetV, e_kToD, e_kFv, e_kOk, e_kOp1c, e_kOp1, e_kOp2d, e_kOp2c, e_kOp2b, e_kOp2a, e_kConsB, e_kCons, e_kStarC, e_kStarB, e_kStarA, e_kStar, e_kTup, e_kLst, e_kCall, e_kCallVB, e_kCallV, e_kOkB, e_kTruB, e_kTru, e_kNotM, e_kTNot, e_kTru1B, e_kTru1, e_kOptB, e_kOpt, e_kCutD, e_kCutC, e_kCutB, e_kCut, e_kOkD, e_kTabB, e_kTab, e_kOkL, e_kIVal, e_kRg1B, e_kRg1, e_kRg2D, e_kRg2C, e_kRg2B, e_kRg2, e_kZipB, e_kZip, e_kLc, e_kLcA, e_kLc2, e_kLoD, e_kLoC, e_kLoA, e_kMtC, e_kMtB, e_kMtA, e_kMt0, e_kSetD, e_kSetC, e_kSetB, e_kSetA, e_kAsG, e_kAsF, e_kAsE, e_kAsD, e_kAsC, e_kAsB, e_kAsA, e_kAs, e_kGs, e_kIfS1, e_kIfS0, cvG_d, cvG_fl, e_kIfE1, e_kIfE0, e_kTB, e_kAndE1, e_kAndE0, e_kOrE1, e_kOrE0, e_ktAnd1, e_ktAnd0, e_ktOr1, e_ktOr0, ivG_fl, ivG_l, ivG_t, e_kLcC, e_kLcB1, e_kLcB0, RcO_ok, e_kLoB1, e_kLoB0, slotO_0, slotO_s, set_0, set_s, ofO_some, ofOF_some, ofRc_ok, RcB_ok, bind_ok, fl_ok, Fl.seq_nx, Fl.seq_rt, Fl.seq_bk, Fl.seq_ct, toD_d, toD_fl, beq_self_eq_true, eq_self, p1018, p1012, p109, cDivS, cModP, Int.reduceMod, Int.reduceSub, Int.reduceAdd, Int.reduceNeg, Int.reduceLT, Int.reduceLE, Int.reduceEq, Int.reduceMul, Int.reduceDiv, List.length_cons, List.length_nil, Nat.reduceAdd, Nat.reduceLT, Nat.reduceLeDiff, Nat.reduceEqDiff, if_true, if_false, Bool.false_eq_true, reduceIte, reduceCtorEq, Nat.zero_lt_succ, Option.bind_some, Option.map_some, Option.isSome_some, List.cons_append, List.nil_append, decide_true, decide_false, Bool.not_true, Bool.not_false, List.isEmpty_nil, List.isEmpty_cons, Nat.zero_add, List.map_cons, List.map_nil, List.drop_succ_cons, List.drop_zero, List.take_succ_cons, List.take_zero, ix_fr0, ix_fr1, fr0, fr1, ladd_s, lsub_s, lmul_s, e_eqF])
theorem parts_good_s (k : Nat) (a b : Rat) [Bt a 90] [Bt b 90] (hab : a ≤ b) (n : Nat) (hn : n ≤ 100000) (S : List Ob) (hb : Bag n S) :
    ∃ S', callN pg (k + 9) 86 [.dict [(.dict [], .int 0)], .tuple [fr a, fr b]] S = .ok (.d (.bool true)) S' ∧ Bag (n + 2) S' := by
  obtain ⟨v, S1, g1, v0, v1, b1⟩ := take_s (k + 7) 9 (by omega) (by omega) n (by omega) S hb
  obtain ⟨u, S2, g2, u0, u1, b2⟩ := take_s (k + 7) 6 (by omega) (by omega) (n + 1) (by omega) S1 b1
  obtain ⟨p, hp⟩ := Int.eq_ofNat_of_zero_le (show 0 ≤ 1 + v by omega)
  have hp' : 1 + v = (p : Int) := hp
  have p0 : p ≠ 0 := by omega
  refine ⟨S2, ?_, b2⟩
  have hr : rngB 0 (p : Int) = true := rngOk (by omega) (by omega)
  have hl : rowI 0 ((p : Int).toNat) = rowR 0 p := by rw [Int.toNat_natCast, rowI_R]
  have e0 : a + (b - a) * mkRat (0 : Nat) p = a := by
    rw [show ((0 : Nat) : Int) = 0 from rfl, mk_zero]; grind
  have e1 : a + (b - a) * mkRat p p = b := by rw [mk_self p p0]; grind
  obtain ⟨o6, o7, hg⟩ := parts_go k a b S2 (some (.d (.dict [(.dict [], .int 0)]))) (some (.d (.int u))) p p0 (by omega) p 0 none none (by omega)
  rw [e0, e1] at hg
  unfold wP at hg
  rw [c86]; unfold b86
  walk_at "x3"
  rw [g1]
  walk_at "x3"
  rw [g2]
  walk_at "x3"
  rw [hp']
  rw [hr, if_pos rfl, hl]
  walk_at "x3"
  rw [hg]
  walk_at "x3"
  rcases (show u = 0 ∨ u = 1 ∨ u = 2 ∨ u = 3 ∨ u = 4 ∨ u = 5 by omega) with rfl | rfl | rfl | rfl | rfl | rfl
  · rw [power0_s _ a b _ hab (by omega)]
    walk_at "x3"
    rw [lpow_span0_s _ a b _ (by omega)]
    walk_at "x3"
    rw [alike_s _ (.tuple [fr (powLo a b 0), fr (powHi a b 0)]) rfl (by simp only [sz, szL, szF]; omega)]
    walk_at "x3"
  · rw [power1_s _ a b _ hab (by omega)]
    walk_at "x3"
    rw [lpow_span1_s _ a b _ (by omega)]
    walk_at "x3"
    rw [alike_s _ (.tuple [fr (powLo a b 1), fr (powHi a b 1)]) rfl (by simp only [sz, szL, szF]; omega)]
    walk_at "x3"
  · rw [power2_s _ a b _ hab (by omega)]
    walk_at "x3"
    rw [lpow_span2_s _ a b _ (by omega)]
    walk_at "x3"
    rw [alike_s _ (.tuple [fr (powLo a b 2), fr (powHi a b 2)]) rfl (by simp only [sz, szL, szF]; omega)]
    walk_at "x3"
  · rw [power3_s _ a b _ hab (by omega)]
    walk_at "x3"
    rw [lpow_span3_s _ a b _ (by omega)]
    walk_at "x3"
    rw [alike_s _ (.tuple [fr (powLo a b 3), fr (powHi a b 3)]) rfl (by simp only [sz, szL, szF]; omega)]
    walk_at "x3"
  · rw [power4_s _ a b _ hab (by omega)]
    walk_at "x3"
    rw [lpow_span4_s _ a b _ (by omega)]
    walk_at "x3"
    rw [alike_s _ (.tuple [fr (powLo a b 4), fr (powHi a b 4)]) rfl (by simp only [sz, szL, szF]; omega)]
    walk_at "x3"
  · rw [power5_s _ a b _ hab (by omega)]
    walk_at "x3"
    rw [lpow_span5_s _ a b _ (by omega)]
    walk_at "x3"
    rw [alike_s _ (.tuple [fr (powLo a b 5), fr (powHi a b 5)]) rfl (by simp only [sz, szL, szF]; omega)]
    walk_at "x3"
end K03


set_option Elab.async false
set_option linter.all false
set_option linter.unusedSimpArgs false
set_option exponentiation.threshold 20000
set_option maxRecDepth 100000
set_option maxHeartbeats 4000000
namespace K03
open PySem PySem.Spec L2 Mi
/-! KS12: terms and rows are as told. -/
theorem neNil (S) : fNe S (.list []) (.list []) = some (.d (.bool false)) := rfl
theorem inB_of {p q x : Rat} (h1 : p ≤ x) (h2 : x ≤ q) : inB p q x = true := by
  unfold inB
  simp only [Bool.and_eq_true, Bool.not_eq_true', decide_eq_false_iff_not, Rat.not_lt]
  exact ⟨h1, h2⟩
theorem listB (x : D) : (GV.d x) = GV.d x := rfl
def Ts : List D := [T1, T2, T3, T4, T5, T6, T7, T8, T9]
def Ds (a b c d e f p q : Rat) : List D := [.tuple [fr (a + c), fr (b + d)], .tuple [fr (a - f), fr (b - e)], .tuple [fr (mlo a b c d), fr (mhi a b c d)], .tuple [fr (powLo a b 3), fr (powHi a b 3)], .tuple [fr (powLo e f 2), fr (powHi e f 2)], .tuple [fr (rmin a e), fr (rmin b f)], .tuple [fr (rmax c e), fr (rmax d f)], .tuple [fr p, fr q], .tuple [fr 1, fr 1]]
def wT (call : Calls) : St' := (sSeq (sAsg (gTp 2 (gsCons (gNm 17 .own) (gsCons (gNm 18 .own) gsNil))) (cTup (aCons (cTup (aCons (cCall call 79 (aCons (cVar 0) (aCons (cVar 1) aNil))) (aCons (cCall call 79 (aCons (cVar 0) (aCons (cVar 2) aNil))) aNil))) (aCons (cTup (aCons (cCall call 79 (aCons (cVar 0) (aCons (cVar 3) aNil))) aNil)) aNil)))) (sIf (tB (cOp2 fNe (.val (cLc (iZipM (cVar 10) (cVar 13)) (gTp 2 (gsCons (gNm 20 .val) (gsCons (gNm 21 .val) gsNil))) (tNotM (tTru (.val (cCall call 83 (aCons (cVar 21) (aCons (cCall call 44 (aCons (cVar 20) (aCons (cVar 17) (aCons (cVar 18) aNil)))) aNil)))))) (cC (.int (1))) [19, 20, 21])) (.val (cLst aNil)))) (sRet (cC (.bool false))) sNil))
local macro_rules | `(tactic| walk_at "y1") => `(tactic| try simp (disch := (first | omega | (simp only [List.length_cons, List.length_nil] <;> omega) | fail)) only [e_sNil, e_sSeq, e_sRet, e_sRetN, e_sBrk, e_sCnt, e_sRetV, e_sIf, e_sDrop, e_sAsg, e_sAsg2, e_sPar2, e_sPar3, e_sFor, fornx_nx, fornx_ct, fornx_bk, fornx_rt, e_forL_nil, e_forL_cons, e_gOwn, e_gVal, e_gShare0, e_gsNil, e_gsCons, e_gTpT, e_gTpL, e_gTpF, e_cC, e_vl, e_cVar, e_firstVar, e_firstVal, e_lateVar, e_lateVal, e_cOp1, e_cOp2, e_aNil, e_aCons, e_aStar, e_cTup, e_cLst, e_cCall, e_cCallV, e_fnOf, e_fnOf_, e_cIf, e_tB, e_tTru, e_cNotM, e_tNotM, e_tru1, e_cAnd1, e_cAnd2, e_cOr1, e_cOr2, e_tAnd1, e_tAnd2, e_tOr1, e_tOr2, e_tYes, e_optN, e_optS, e_cCut, e_cTab, e_iVal, e_iVar, e_seqL, e_seqT, e_iRange1, e_iRange2, e_intO, e_strO, e_iZipM, e_zipL, e_zipT, e_pairs, e_pairs0, e_cLc, e_lcN, e_lcC, e_cLc2, e_loN, e_loC, e_cMt1, e_fFlIf, e_fSIf, e_cMt0, e_gSet, e_sAugS, e_lstAt, e_lstFl, e_lstRef0, e_putAt, putO_fl, putO_ref0, e_endRt, e_endNx, le_lim, lt_lim, e_add, e_addT, e_addL, e_sub, e_mul, e_div, e_mod, e_lt, e_le, e_gt, e_ge, e_abs, e_neg, e_int1, e_addI, e_subI, e_truB, e_truI, e_truL, e_truT, e_itT, e_itL, e_lenT, e_lenL, e_tupT, e_tupL, e_appd, e_eqI, e_neI, e_eqS, e_eqB, e_neB, nthD_0, nthD_s, e_ixT, e_ixL, e_ixT0, e_ixT1, e_ixT2, e_ixT3, e_ixT4, e_ixT5, e_ixT6, e_ixT7, e_ixL0, e_ixL1, e_ixL2, e_ixL3, e_ixL4, e_ixL5, e_ixL6, e_ixL7, e_ixR00, e_ixR01, e_ixR02, e_ixR03, e_map, e_atI0, e_atI1, e_atI2, e_atI3, e_ixN0, e_ixN1, e_ixN2, e_ixN3, cut_from0, cut_from1, cut_from2, cut_from3, cut_to0, cut_to1, cut_to2, cut_to3, e_cutT, e_cutL, hide_d, wipe_n, wipe_c, hideG_d, hideG_o, hideG_n, e_kRet, e_kNx, e_kAsg, e_kAsg2b, e_kAsg2, e_kPar2c, e_kPar2b, e_kPar2a, e_kPar3d, e_kPar3c, e_kPar3b, e_kPar3a, e_kFor, e_kForB, e_kAugC, e_kAugB, e_kRetV, e_kToD, e_kFv, e_kOk, e_kOp1c, e_kOp1, e_kOp2d, e_kOp2c, e_kOp2b, e_kOp2a, e_kConsB, e_kCons, e_kStarC, e_kStarB, e_kStarA, e_kStar, e_kTup, e_kLst, e_kCall, e_kCallVB, e_kCallV, e_kOkB, e_kTruB, e_kTru, e_kNotM, e_kTNot, e_kTru1B, e_kTru1, e_kOptB, e_kOpt, e_kCutD, e_kCutC, e_kCutB, e_kCut, e_kOkD, e_kTabB, e_kTab, e_kOkL, e_kIVal, e_kRg1B, e_kRg1, e_kRg2D, e_kRg2C, e_kRg2B, e_kRg2, e_kZipB, e_kZip, e_kLc, e_kLcA, e_kLc2, e_kLoD, e_kLoC, e_kLoA, e_kMtC, e_kMtB, e_kMtA, e_kMt0, e_kSetD, e_kSetC, e_kSetB, e_kSetA, e_kAsG, e_kAsF, e_kAsE, e_kAsD, e_kAsC, e_kAsB, e_kAsA, e_kAs, e_kGs, e_kIfS1, e_kIfS0, cvG_d, cvG_fl, e_kIfE1, e_kIfE0, e_kTB, e_kAndE1, e_kAndE0, e_kOrE1, e_kOrE0, e_ktAnd1, e_ktAnd0, e_ktOr1, e_ktOr0, ivG_fl, ivG_l, ivG_t, e_kLcC, e_kLcB1, e_kLcB0, RcO_ok, e_kLoB1, e_kLoB0, slotO_0, slotO_s, set_0, set_s, ofO_some, ofOF_some, ofRc_ok, RcB_ok, bind_ok, fl_ok, Fl.seq_nx, Fl.seq_rt, Fl.seq_bk, Fl.seq_ct, toD_d, toD_fl, beq_self_eq_true, eq_self, p1018, p1012, p109, cDivS, cModP, Int.reduceMod, Int.reduceSub, Int.reduceAdd, Int.reduceNeg, Int.reduceLT, Int.reduceLE, Int.reduceEq, Int.reduceMul, Int.reduceDiv, List.length_cons, List.length_nil, Nat.reduceAdd, Nat.reduceLT, Nat.reduceLeDiff, Nat.reduceEqDiff, if_true, if_false, Bool.false_eq_true, reduceIte, reduceCtorEq, Nat.zero_lt_succ, Option.bind_some, Option.map_some, Option.isSome_some, List.cons_append, List.nil_append, decide_true, decide_false, Bool.not_true, Bool.not_false, List.isEmpty_nil, List.isEmpty_cons, Nat.zero_add, List.map_cons, List.map_nil, List.drop_succ_cons, List.drop_zero, List.take_succ_cons, List.take_zero, ix_fr0, ix_fr1, lholds_s, neNil, e_zipL, tvt_1, tvt_2, tvt_3, tvt_4, tvt_5, tvt_6, tvt_7, tvt_8, tvt_9])
local macro_rules | `(tactic| walk_at "y0") => `(tactic| try simp (disch := (first | omega | (simp only [List.length_cons, List.length_nil] <;> omega) | fail)) only [e_sNil, e_sSeq, e_sRet, e_sRetN, e_sBrk, e_sCnt, e_sRetV, e_sIf, e_sDrop, e_sAsg, e_sAsg2, e_sPar2, e_sPar3, e_sFor, fornx_nx, fornx_ct, fornx_bk, fornx_rt, e_forL_nil, e_forL_cons, e_gOwn, e_gVal, e_gShare0, e_gsNil, e_gsCons, e_gTpT, e_gTpL, e_gTpF, e_cC, e_vl, e_cVar, e_firstVar, e_firstVal, e_lateVar, e_lateVal, e_cOp1, e_cOp2, e_aNil, e_aCons, e_aStar, e_cTup, e_cLst, e_cCall, e_cCallV, e_fnOf, e_fnOf_, e_cIf, e_tB, e_tTru, e_cNotM, e_tNotM, e_tru1, e_cAnd1, e_cAnd2, e_cOr1, e_cOr2, e_tAnd1, e_tAnd2, e_tOr1, e_tOr2, e_tYes, e_optN, e_optS, e_cCut, e_cTab, e_iVal, e_iVar, e_seqL, e_seqT, e_iRange1, e_iRange2, e_intO, e_strO, e_iZipM, e_zipL, e_zipT, e_pairs, e_pairs0, e_cLc, e_lcN, e_lcC, e_cLc2, e_loN, e_loC, e_cMt1, e_fFlIf, e_fSIf, e_cMt0, e_gSet, e_sAugS, e_lstAt, e_lstFl, e_lstRef0, e_putAt, putO_fl, putO_ref0, e_endRt, e_endNx, le_lim, lt_lim, e_add, e_addT, e_addL, e_sub, e_mul, e_div, e_mod, e_lt, e_le, e_gt, e_ge, e_abs, e_neg, e_int1, e_addI, e_subI, e_truB, e_truI, e_truL, e_truT, e_itT, e_itL, e_lenT, e_lenL, e_tupT, e_tupL, e_appd, e_eqI, e_neI, e_eqS, e_eqB, e_neB, nthD_0, nthD_s, e_ixT, e_ixL, e_ixT0, e_ixT1, e_ixT2, e_ixT3, e_ixT4, e_ixT5, e_ixT6, e_ixT7, e_ixL0, e_ixL1, e_ixL2, e_ixL3, e_ixL4, e_ixL5, e_ixL6, e_ixL7, e_ixR00, e_ixR01, e_ixR02, e_ixR03, e_map, e_atI0, e_atI1, e_atI2, e_atI3, e_ixN0, e_ixN1, e_ixN2, e_ixN3, cut_from0, cut_from1, cut_from2, cut_from3, cut_to0, cut_to1, cut_to2, cut_to3, e_cutT, e_cutL, hide_d, wipe_n, wipe_c, hideG_d, hideG_o, hideG_n, e_kRet, e_kNx, e_kAsg, e_kAsg2b, e_kAsg2, e_kPar2c, e_kPar2b, e_kPar2a, e_kPar3d, e_kPar3c, e_kPar3b, e_kPar3a, e_kFor, e_kForB, e_kAugC, e_kAugB, e_kRetV, e_kToD, e_kFv, e_kOk, e_kOp1c, e_kOp1, e_kOp2d, e_kOp2c, e_kOp2b, e_kOp2a, e_kConsB, e_kCons, e_kStarC, e_kStarB, e_kStarA, e_kStar, e_kTup, e_kLst, e_kCall, e_kCallVB, e_kCallV, e_kOkB, e_kTruB, e_kTru, e_kNotM, e_kTNot, e_kTru1B, e_kTru1, e_kOptB, e_kOpt, e_kCutD, e_kCutC, e_kCutB, e_kCut, e_kOkD, e_kTabB, e_kTab, e_kOkL, e_kIVal, e_kRg1B, e_kRg1, e_kRg2D, e_kRg2C, e_kRg2B, e_kRg2, e_kZipB, e_kZip, e_kLc, e_kLcA, e_kLc2, e_kLoD, e_kLoC, e_kLoA, e_kMtC, e_kMtB, e_kMtA, e_kMt0, e_kSetD, e_kSetC, e_kSetB, e_kSetA, e_kAsG, e_kAsF, e_kAsE, e_kAsD, e_kAsC, e_kAsB, e_kAsA, e_kAs, e_kGs, e_kIfS1, e_kIfS0, cvG_d, cvG_fl, e_kIfE1, e_kIfE0, e_kTB, e_kAndE1, e_kAndE0, e_kOrE1, e_kOrE0, e_ktAnd1, e_ktAnd0, e_ktOr1, e_ktOr0, ivG_fl, ivG_l, ivG_t, e_kLcC, e_kLcB1, e_kLcB0, RcO_ok, e_kLoB1, e_kLoB0, slotO_0, slotO_s, set_0, set_s, ofO_some, ofOF_some, ofRc_ok, RcB_ok, bind_ok, fl_ok, Fl.seq_nx, Fl.seq_rt, Fl.seq_bk, Fl.seq_ct, toD_d, toD_fl, beq_self_eq_true, eq_self, p1018, p1012, p109, cDivS, cModP, Int.reduceMod, Int.reduceSub, Int.reduceAdd, Int.reduceNeg, Int.reduceLT, Int.reduceLE, Int.reduceEq, Int.reduceMul, Int.reduceDiv, List.length_cons, List.length_nil, Nat.reduceAdd, Nat.reduceLT, Nat.reduceLeDiff, Nat.reduceEqDiff, if_true, if_false, Bool.false_eq_true, reduceIte, reduceCtorEq, Nat.zero_lt_succ, Option.bind_some, Option.map_some, Option.isSome_some, List.cons_append, List.nil_append, decide_true, decide_false, Bool.not_true, Bool.not_false, List.isEmpty_nil, List.isEmpty_cons, Nat.zero_add, List.map_cons, List.map_nil, List.drop_succ_cons, List.drop_zero, List.take_succ_cons, List.take_zero, ix_fr0, ix_fr1])
section
variable (k : Nat) (a b c d e f p q : Rat) [Bt a 90] [Bt b 90] [Bt c 90] [Bt d 90] [Bt e 90] [Bt f 90] [Bt p 90] [Bt q 90] (hab : a ≤ b) (hcd : c ≤ d) (hef : e ≤ f) (hpq : p ≤ q)
  (hv : ∀ x y s, a ≤ x → x ≤ b → c ≤ y → y ≤ d → e ≤ s → s ≤ f → p ≤ (if x - mkRat 1 2 < 0 then y else s) ∧ (if x - mkRat 1 2 < 0 then y else s) ≤ q)
include hab hcd hef hpq hv
theorem terms_step (n : Nat) (hn : n ≤ 90000) (S : List Ob) (hb : Bag n S) (o4 o5 o6 o7 o8 o9 o11 o12 o14 o15 o16 o17 o18 : Option GV) :
    ∃ S' o17' o18', wT (callN pg (k + 20)) ⟨[some (.d (.dict [(.dict [], .int 0)])), some (.d (.tuple [fr a, fr b])), some (.d (.tuple [fr c, fr d])), some (.d (.tuple [fr e, fr f])), o4, o5, o6, o7, o8, o9, some (.d (.list Ts)), o11, o12, some (.d (.list (Ds a b c d e f p q))), o14, o15, o16, o17, o18, none, none, none], S⟩
      = .nx ⟨[some (.d (.dict [(.dict [], .int 0)])), some (.d (.tuple [fr a, fr b])), some (.d (.tuple [fr c, fr d])), some (.d (.tuple [fr e, fr f])), o4, o5, o6, o7, o8, o9, some (.d (.list Ts)), o11, o12, some (.d (.list (Ds a b c d e f p q))), o14, o15, o16, o17', o18', none, none, none], S'⟩ ∧ Bag (n + 3) S' := by
  obtain ⟨x, S1, g1, x1, x2, tx, b1⟩ := linside_s (k + 17) a b hab n (by omega) S hb
  obtain ⟨y, S2, g2, y1, y2, ty, b2⟩ := linside_s (k + 17) c d hcd (n + 1) (by omega) S1 b1
  obtain ⟨s, S3, g3, s1, s2, ts, b3⟩ := linside_s (k + 17) e f hef (n + 2) (by omega) S2 b2
  refine ⟨S3, some (.d (.tuple [fr x, fr y])), some (.d (.tuple [fr s])), ?_, b3⟩
  have v1 : inB (a + c) (b + d) (x + y) = true := inB_of (by grind) (by grind)
  have v2 : inB (a - f) (b - e) (x - s) = true := inB_of (by grind) (by grind)
  have v3 : inB (mlo a b c d) (mhi a b c d) (x * y) = true := inB_of (mul_in x1 x2 y1 y2).1 (mul_in x1 x2 y1 y2).2
  have v4 : inB (powLo a b 3) (powHi a b 3) (rpow x 3) = true := inB_of (pow_in x1 x2 3).1 (pow_in x1 x2 3).2
  have v5 : inB (powLo e f 2) (powHi e f 2) (rpow s 2) = true := inB_of (pow_in s1 s2 2).1 (pow_in s1 s2 2).2
  have v6 : inB (rmin a e) (rmin b f) (rmin x s) = true := inB_of (rmin_mono x1 s1) (rmin_mono x2 s2)
  have v7 : inB (rmax c e) (rmax d f) (rmax y s) = true := inB_of (rmax_mono y1 s1) (rmax_mono y2 s2)
  have v8 : inB p q (if x - mkRat 1 2 < 0 then y else s) = true := inB_of (hv x y s x1 x2 y1 y2 s1 s2).1 (hv x y s x1 x2 y1 y2 s1 s2).2
  have v9 : inB 1 1 1 = true := inB_of Rat.le_refl Rat.le_refl
  haveI : Bt (if x - mkRat 1 2 < 0 then y else s) 300 := by split <;> assumption
  unfold wT Ts Ds
  walk_at "y0"
  rw [g1]
  walk_at "y0"
  rw [g2]
  walk_at "y0"
  rw [g3]
  walk_at "y1"
  simp only [v1]
  walk_at "y1"
  simp only [v2]
  walk_at "y1"
  simp only [v3]
  walk_at "y1"
  simp only [v4]
  walk_at "y1"
  simp only [v5]
  walk_at "y1"
  simp only [v6]
  walk_at "y1"
  simp only [v7]
  walk_at "y1"
  simp only [v8]
  walk_at "y1"
  simp only [v9]
  walk_at "y1"
end
end K03


set_option Elab.async false
set_option linter.all false
set_option linter.unusedSimpArgs false
set_option exponentiation.threshold 20000
set_option maxRecDepth 100000
set_option maxHeartbeats 4000000
namespace K03
open PySem PySem.Spec L2 Mi
/-! KS13: the terms' law. -/
local macro_rules | `(tactic| walk_at "y0") => `(tactic| try simp (disch := (first | omega | (simp only [List.length_cons, List.length_nil] <;> omega) | fail)) only [e_sNil, e_sSeq, e_sRet, e_sRetN, e_sBrk, e_sCnt, e_sRetV, e_sIf, e_sDrop, e_sAsg, e_sAsg2, e_sPar2, e_sPar3, e_sFor, fornx_nx, fornx_ct, fornx_bk, fornx_rt, e_forL_nil, e_forL_cons, e_gOwn, e_gVal, e_gShare0, e_gsNil, e_gsCons, e_gTpT, e_gTpL, e_gTpF, e_cC, e_vl, e_cVar, e_firstVar, e_firstVal, e_lateVar, e_lateVal, e_cOp1, e_cOp2, e_aNil, e_aCons, e_aStar, e_cTup, e_cLst, e_cCall, e_cCallV, e_fnOf, e_fnOf_, e_cIf, e_tB, e_tTru, e_cNotM, e_tNotM, e_tru1, e_cAnd1, e_cAnd2, e_cOr1, e_cOr2, e_tAnd1, e_tAnd2, e_tOr1, e_tOr2, e_tYes, e_optN, e_optS, e_cCut, e_cTab, e_iVal, e_iVar, e_seqL, e_seqT, e_iRange1, e_iRange2, e_intO, e_strO, e_iZipM, e_zipL, e_zipT, e_pairs, e_pairs0, e_cLc, e_lcN, e_lcC, e_cLc2, e_loN, e_loC, e_cMt1, e_fFlIf, e_fSIf, e_cMt0, e_gSet, e_sAugS, e_lstAt, e_lstFl, e_lstRef0, e_putAt, putO_fl, putO_ref0, e_endRt, e_endNx, le_lim, lt_lim, e_add, e_addT, e_addL, e_sub, e_mul, e_div, e_mod, e_lt, e_le, e_gt, e_ge, e_abs, e_neg, e_int1, e_addI, e_subI, e_truB, e_truI, e_truL, e_truT, e_itT, e_itL, e_lenT, e_lenL, e_tupT, e_tupL, e_appd, e_eqI, e_neI, e_eqS, e_eqB, e_neB, nthD_0, nthD_s, e_ixT, e_ixL, e_ixT0, e_ixT1, e_ixT2, e_ixT3, e_ixT4, e_ixT5, e_ixT6, e_ixT7, e_ixL0, e_ixL1, e_ixL2, e_ixL3, e_ixL4, e_ixL5, e_ixL6, e_ixL7, e_ixR00, e_ixR01, e_ixR02, e_ixR03, e_map, e_atI0, e_atI1, e_atI2, e_atI3, e_ixN0, e_ixN1, e_ixN2, e_ixN3, cut_from0, cut_from1, cut_from2, cut_from3, cut_to0, cut_to1, cut_to2, cut_to3, e_cutT, e_cutL, hide_d, wipe_n, wipe_c, hideG_d, hideG_o, hideG_n, e_kRet, e_kNx, e_kAsg, e_kAsg2b, e_kAsg2, e_kPar2c, e_kPar2b, e_kPar2a, e_kPar3d, e_kPar3c, e_kPar3b, e_kPar3a, e_kFor, e_kForB, e_kAugC, e_kAugB, e_kRetV, e_kToD, e_kFv, e_kOk, e_kOp1c, e_kOp1, e_kOp2d, e_kOp2c, e_kOp2b, e_kOp2a, e_kConsB, e_kCons, e_kStarC, e_kStarB, e_kStarA, e_kStar, e_kTup, e_kLst, e_kCall, e_kCallVB, e_kCallV, e_kOkB, e_kTruB, e_kTru, e_kNotM, e_kTNot, e_kTru1B, e_kTru1, e_kOptB, e_kOpt, e_kCutD, e_kCutC, e_kCutB, e_kCut, e_kOkD, e_kTabB, e_kTab, e_kOkL, e_kIVal, e_kRg1B, e_kRg1, e_kRg2D, e_kRg2C, e_kRg2B, e_kRg2, e_kZipB, e_kZip, e_kLc, e_kLcA, e_kLc2, e_kLoD, e_kLoC, e_kLoA, e_kMtC, e_kMtB, e_kMtA, e_kMt0, e_kSetD, e_kSetC, e_kSetB, e_kSetA, e_kAsG, e_kAsF, e_kAsE, e_kAsD, e_kAsC, e_kAsB, e_kAsA, e_kAs, e_kGs, e_kIfS1, e_kIfS0, cvG_d, cvG_fl, e_kIfE1, e_kIfE0, e_kTB, e_kAndE1, e_kAndE0, e_kOrE1, e_kOrE0, e_ktAnd1, e_ktAnd0, e_ktOr1, e_ktOr0, ivG_fl, ivG_l, ivG_t, e_kLcC, e_kLcB1, e_kLcB0, RcO_ok, e_kLoB1, e_kLoB0, slotO_0, slotO_s, set_0, set_s, ofO_some, ofOF_some, ofRc_ok, RcB_ok, bind_ok, fl_ok, Fl.seq_nx, Fl.seq_rt, Fl.seq_bk, Fl.seq_ct, toD_d, toD_fl, beq_self_eq_true, eq_self, p1018, p1012, p109, cDivS, cModP, Int.reduceMod, Int.reduceSub, Int.reduceAdd, Int.reduceNeg, Int.reduceLT, Int.reduceLE, Int.reduceEq, Int.reduceMul, Int.reduceDiv, List.length_cons, List.length_nil, Nat.reduceAdd, Nat.reduceLT, Nat.reduceLeDiff, Nat.reduceEqDiff, if_true, if_false, Bool.false_eq_true, reduceIte, reduceCtorEq, Nat.zero_lt_succ, Option.bind_some, Option.map_some, Option.isSome_some, List.cons_append, List.nil_append, decide_true, decide_false, Bool.not_true, Bool.not_false, List.isEmpty_nil, List.isEmpty_cons, Nat.zero_add, List.map_cons, List.map_nil, List.drop_succ_cons, List.drop_zero, List.take_succ_cons, List.take_zero, ix_fr0, ix_fr1])
theorem terms_go (k : Nat) (a b c d e f p q : Rat) [Bt a 90] [Bt b 90] [Bt c 90] [Bt d 90] [Bt e 90] [Bt f 90] [Bt p 90] [Bt q 90] (hab : a ≤ b) (hcd : c ≤ d) (hef : e ≤ f) (hpq : p ≤ q)
  (hv : ∀ x y s, a ≤ x → x ≤ b → c ≤ y → y ≤ d → e ≤ s → s ≤ f → p ≤ (if x - mkRat 1 2 < 0 then y else s) ∧ (if x - mkRat 1 2 < 0 then y else s) ≤ q) (o4 o5 o6 o7 o8 o9 o11 o12 o14 o15 : Option GV) :
  ∀ (l : List D) (n : Nat), n + 3 * l.length ≤ 90000 → ∀ (S : List Ob), Bag n S → ∀ (o16 o17 o18 : Option GV),
    ∃ S' o16' o17' o18', forL (gNm 16 .own) (wT (callN pg (k + 20))) l ⟨[some (.d (.dict [(.dict [], .int 0)])), some (.d (.tuple [fr a, fr b])), some (.d (.tuple [fr c, fr d])), some (.d (.tuple [fr e, fr f])), o4, o5, o6, o7, o8, o9, some (.d (.list Ts)), o11, o12, some (.d (.list (Ds a b c d e f p q))), o14, o15, o16, o17, o18, none, none, none], S⟩
      = .nx ⟨[some (.d (.dict [(.dict [], .int 0)])), some (.d (.tuple [fr a, fr b])), some (.d (.tuple [fr c, fr d])), some (.d (.tuple [fr e, fr f])), o4, o5, o6, o7, o8, o9, some (.d (.list Ts)), o11, o12, some (.d (.list (Ds a b c d e f p q))), o14, o15, o16', o17', o18', none, none, none], S'⟩ ∧ Bag (n + 3 * l.length) S'
  | [], n, hn, S, hb, o16, o17, o18 => ⟨S, o16, o17, o18, rfl, hb⟩
  | x :: l, n, hn, S, hb, o16, o17, o18 => by
    rw [List.length_cons] at hn
    obtain ⟨S1, p17, p18, h1, b1⟩ := terms_step k a b c d e f p q hab hcd hef hpq hv n (by omega) S hb o4 o5 o6 o7 o8 o9 o11 o12 o14 o15 (some (.d x)) o17 o18
    obtain ⟨S2, q16, q17, q18, h2, b2⟩ := terms_go k a b c d e f p q hab hcd hef hpq hv o4 o5 o6 o7 o8 o9 o11 o12 o14 o15 l (n + 3) (by omega) S1 b1 (some (.d x)) p17 p18
    refine ⟨S2, q16, q17, q18, ?_, by rw [List.length_cons]; exact b2.le (by omega)⟩
    rw [e_forL_cons]
    walk_at "y0"
    rw [h1]
    walk_at "y0"
    exact h2
local macro_rules | `(tactic| walk_at "z1") => `(tactic| try simp (disch := (first | omega | (simp only [List.length_cons, List.length_nil] <;> omega) | fail)) only [e_sNil, e_sSeq, e_sRet, e_sRetN, e_sBrk, e_sCnt, e_sRetV, e_sIf, e_sDrop, e_sAsg, e_sAsg2, e_sPar2, e_sPar3, e_sFor, fornx_nx, fornx_ct, fornx_bk, fornx_rt, e_forL_nil, e_forL_cons, e_gOwn, e_gVal, e_gShare0, e_gsNil, e_gsCons, e_gTpT, e_gTpL, e_gTpF, e_cC, e_vl, e_cVar, e_firstVar, e_firstVal, e_lateVar, e_lateVal, e_cOp1, e_cOp2, e_aNil, e_aCons, e_aStar, e_cTup, e_cLst, e_cCall, e_cCallV, e_fnOf, e_fnOf_, e_cIf, e_tB, e_tTru, e_cNotM, e_tNotM, e_tru1, e_cAnd1, e_cAnd2, e_cOr1, e_cOr2, e_tAnd1, e_tAnd2, e_tOr1, e_tOr2, e_tYes, e_optN, e_optS, e_cCut, e_cTab, e_iVal, e_iVar, e_seqL, e_seqT, e_iRange1, e_iRange2, e_intO, e_strO, e_iZipM, e_zipL, e_zipT, e_pairs, e_pairs0, e_cLc, e_lcN, e_lcC, e_cLc2, e_loN, e_loC, e_cMt1, e_fFlIf, e_fSIf, e_cMt0, e_gSet, e_sAugS, e_lstAt, e_lstFl, e_lstRef0, e_putAt, putO_fl, putO_ref0, e_endRt, e_endNx, le_lim, lt_lim, e_add, e_addT, e_addL, e_sub, e_mul, e_div, e_mod, e_lt, e_le, e_gt, e_ge, e_abs, e_neg, e_int1, e_addI, e_subI, e_truB, e_truI, e_truL, e_truT, e_itT, e_itL, e_lenT, e_lenL, e_tupT, e_tupL, e_appd, e_eqI, e_neI, e_eqS, e_eqB, e_neB, nthD_0, nthD_s, e_ixT, e_ixL, e_ixT0, e_ixT1, e_ixT2, e_ixT3, e_ixT4, e_ixT5, e_ixT6, e_ixT7, e_ixL0, e_ixL1, e_ixL2, e_ixL3, e_ixL4, e_ixL5, e_ixL6, e_ixL7, e_ixR00, e_ixR01, e_ixR02, e_ixR03, e_map, e_atI0, e_atI1, e_atI2, e_atI3, e_ixN0, e_ixN1, e_ixN2, e_ixN3, cut_from0, cut_from1, cut_from2, cut_from3, cut_to0, cut_to1, cut_to2, cut_to3, e_cutT, e_cutL, hide_d, wipe_n, wipe_c, hideG_d, hideG_o, hideG_n, e_kRet, e_kNx, e_kAsg, e_kAsg2b, e_kAsg2, e_kPar2c, e_kPar2b, e_kPar2a, e_kPar3d, e_kPar3c, e_kPar3b, e_kPar3a, e_kFor, e_kForB, e_kAugC, e_kAugB, e_kRetV, e_kToD, e_kFv, e_kOk, e_kOp1c, e_kOp1, e_kOp2d, e_kOp2c, e_kOp2b, e_kOp2a, e_kConsB, e_kCons, e_kStarC, e_kStarB, e_kStarA, e_kStar, e_kTup, e_kLst, e_kCall, e_kCallVB, e_kCallV, e_kOkB, e_kTruB, e_kTru, e_kNotM, e_kTNot, e_kTru1B, e_kTru1, e_kOptB, e_kOpt, e_kCutD, e_kCutC, e_kCutB, e_kCut, e_kOkD, e_kTabB, e_kTab, e_kOkL, e_kIVal, e_kRg1B, e_kRg1, e_kRg2D, e_kRg2C, e_kRg2B, e_kRg2, e_kZipB, e_kZip, e_kLc, e_kLcA, e_kLc2, e_kLoD, e_kLoC, e_kLoA, e_kMtC, e_kMtB, e_kMtA, e_kMt0, e_kSetD, e_kSetC, e_kSetB, e_kSetA, e_kAsG, e_kAsF, e_kAsE, e_kAsD, e_kAsC, e_kAsB, e_kAsA, e_kAs, e_kGs, e_kIfS1, e_kIfS0, cvG_d, cvG_fl, e_kIfE1, e_kIfE0, e_kTB, e_kAndE1, e_kAndE0, e_kOrE1, e_kOrE0, e_ktAnd1, e_ktAnd0, e_ktOr1, e_ktOr0, ivG_fl, ivG_l, ivG_t, e_kLcC, e_kLcB1, e_kLcB0, RcO_ok, e_kLoB1, e_kLoB0, slotO_0, slotO_s, set_0, set_s, ofO_some, ofOF_some, ofRc_ok, RcB_ok, bind_ok, fl_ok, Fl.seq_nx, Fl.seq_rt, Fl.seq_bk, Fl.seq_ct, toD_d, toD_fl, beq_self_eq_true, eq_self, p1018, p1012, p109, cDivS, cModP, Int.reduceMod, Int.reduceSub, Int.reduceAdd, Int.reduceNeg, Int.reduceLT, Int.reduceLE, Int.reduceEq, Int.reduceMul, Int.reduceDiv, List.length_cons, List.length_nil, Nat.reduceAdd, Nat.reduceLT, Nat.reduceLeDiff, Nat.reduceEqDiff, if_true, if_false, Bool.false_eq_true, reduceIte, reduceCtorEq, Nat.zero_lt_succ, Option.bind_some, Option.map_some, Option.isSome_some, List.cons_append, List.nil_append, decide_true, decide_false, Bool.not_true, Bool.not_false, List.isEmpty_nil, List.isEmpty_cons, Nat.zero_add, List.map_cons, List.map_nil, List.drop_succ_cons, List.drop_zero, List.take_succ_cons, List.take_zero, ix_fr0, ix_fr1, fr0, fr1, fr12, m_x, m_y, m_s, m_h, m_1, m_2, m_3, m_xx, m_4, m_5, m_6, m_7, m_xh, m_8, m_9, lfour_s, lspan_mul_s, lpow_span3_s, lpow_span2_s, lsub_s])
def wB (call : Calls) : St' := (sSeq (sIf (tNotM (tTru (.val (cCall call 64 (aCons (cLc (iVar 10) (gNm 20 .val) tYesM (cCall call 46 (aCons (cVar 20) (aCons (cVar 8) (aCons (cVar 9) aNil)))) [19, 20]) (aCons (cVar 13) aNil)))))) (sRet (cC (.bool false))) sNil) (sSeq (sAsg (gNm 15 .own) (cLc (iVal (cCut (.var 10) none (some (cC (.int (2)))))) (gNm 20 .val) tYesM (cCall call 53 (aCons (cVar 20) (aCons (cVar 8) (aCons (cVar 9) aNil)))) [19, 20])) (sSeq (sIf (tNotM (tTru (.val (cCall call 64 (aCons (cVar 15) (aCons (cCut (.var 13) none (some (cC (.int (2))))) aNil)))))) (sRet (cC (.bool false))) sNil) (sSeq (sFor (iRange1 (cC (.int (3)))) (gNm 16 .own) (sSeq (sAsg (gTp 2 (gsCons (gNm 17 .own) (gsCons (gNm 18 .own) gsNil))) (cTup (aCons (cTup (aCons (cCall call 79 (aCons (cVar 0) (aCons (cVar 1) aNil))) (aCons (cCall call 79 (aCons (cVar 0) (aCons (cVar 2) aNil))) aNil))) (aCons (cTup (aCons (cCall call 79 (aCons (cVar 0) (aCons (cVar 3) aNil))) aNil)) aNil)))) (sIf (tB (cOp2 fNe (.val (cLc (iZipM (cVar 10) (cVar 13)) (gTp 2 (gsCons (gNm 20 .val) (gsCons (gNm 21 .val) gsNil))) (tNotM (tTru (.val (cCall call 83 (aCons (cVar 21) (aCons (cCall call 44 (aCons (cVar 20) (aCons (cVar 17) (aCons (cVar 18) aNil)))) aNil)))))) (cC (.int (1))) [19, 20, 21])) (.val (cLst aNil)))) (sRet (cC (.bool false))) sNil))) (sRet (cC (.bool true)))))))
def wC (call : Calls) : St' := (sSeq (sAsg (gNm 15 .own) (cLc (iVal (cCut (.var 10) none (some (cC (.int (2)))))) (gNm 20 .val) tYesM (cCall call 53 (aCons (cVar 20) (aCons (cVar 8) (aCons (cVar 9) aNil)))) [19, 20])) (sSeq (sIf (tNotM (tTru (.val (cCall call 64 (aCons (cVar 15) (aCons (cCut (.var 13) none (some (cC (.int (2))))) aNil)))))) (sRet (cC (.bool false))) sNil) (sSeq (sFor (iRange1 (cC (.int (3)))) (gNm 16 .own) (sSeq (sAsg (gTp 2 (gsCons (gNm 17 .own) (gsCons (gNm 18 .own) gsNil))) (cTup (aCons (cTup (aCons (cCall call 79 (aCons (cVar 0) (aCons (cVar 1) aNil))) (aCons (cCall call 79 (aCons (cVar 0) (aCons (cVar 2) aNil))) aNil))) (aCons (cTup (aCons (cCall call 79 (aCons (cVar 0) (aCons (cVar 3) aNil))) aNil)) aNil)))) (sIf (tB (cOp2 fNe (.val (cLc (iZipM (cVar 10) (cVar 13)) (gTp 2 (gsCons (gNm 20 .val) (gsCons (gNm 21 .val) gsNil))) (tNotM (tTru (.val (cCall call 83 (aCons (cVar 21) (aCons (cCall call 44 (aCons (cVar 20) (aCons (cVar 17) (aCons (cVar 18) aNil)))) aNil)))))) (cC (.int (1))) [19, 20, 21])) (.val (cLst aNil)))) (sRet (cC (.bool false))) sNil))) (sRet (cC (.bool true))))))
theorem terms_A (k : Nat) (a b c d e f p q : Rat) [Bt a 90] [Bt b 90] [Bt c 90] [Bt d 90] [Bt e 90] [Bt f 90] [Bt p 90] [Bt q 90] (hab : a ≤ b) (hcd : c ≤ d) (hef : e ≤ f) (S : List Ob)
    (hl : ∀ k, callN pg (k + 4) 87 [.tuple [fr (a - mkRat 1 2), fr (b - mkRat 1 2)], .tuple [fr 0, fr 0], .tuple [fr c, fr d], .tuple [fr e, fr f]] S = .ok (.d (.tuple [fr p, fr q])) S) :
    b88 (callN pg (k + 30)) ⟨[some (.d (.dict [(.dict [], .int 0)])), some (.d (.tuple [fr a, fr b])), some (.d (.tuple [fr c, fr d])), some (.d (.tuple [fr e, fr f])), none, none, none, none, none, none, none, none, none, none, none, none, none, none, none, none, none, none], S⟩ = wB (callN pg (k + 30)) ⟨[some (.d (.dict [(.dict [], .int 0)])), some (.d (.tuple [fr a, fr b])), some (.d (.tuple [fr c, fr d])), some (.d (.tuple [fr e, fr f])), some (.d tX), some (.d tY), some (.d tS), some (.d tH), some (.d (insD a b c d)), some (.d (stsD e f)), some (.fl Ts), some (.d (.tuple [fr (a + c), fr (b + d)])), some (.d (.tuple [fr (a - f), fr (b - e)])), some (.fl (Ds a b c d e f p q)), some (.d (.tuple [fr p, fr q])), none, none, none, none, none, none, none], S⟩ := by
  unfold b88 wB Ts Ds
  walk_at "z1"
  rw [hl (k + 26)]
  walk_at "z1"
theorem terms_B (k : Nat) (a b c d e f p q : Rat) [Bt a 90] [Bt b 90] [Bt c 90] [Bt d 90] [Bt e 90] [Bt f 90] [Bt p 90] [Bt q 90] (hab : a ≤ b) (hcd : c ≤ d) (hef : e ≤ f) (S : List Ob)
    (r8 : callN pg (k + 30) 46 [T8, insD a b c d, stsD e f] S = .ok (.d (.tuple [fr p, fr q])) S) :
    wB (callN pg (k + 30)) ⟨[some (.d (.dict [(.dict [], .int 0)])), some (.d (.tuple [fr a, fr b])), some (.d (.tuple [fr c, fr d])), some (.d (.tuple [fr e, fr f])), some (.d tX), some (.d tY), some (.d tS), some (.d tH), some (.d (insD a b c d)), some (.d (stsD e f)), some (.fl Ts), some (.d (.tuple [fr (a + c), fr (b + d)])), some (.d (.tuple [fr (a - f), fr (b - e)])), some (.fl (Ds a b c d e f p q)), some (.d (.tuple [fr p, fr q])), none, none, none, none, none, none, none], S⟩ = wC (callN pg (k + 30)) ⟨[some (.d (.dict [(.dict [], .int 0)])), some (.d (.tuple [fr a, fr b])), some (.d (.tuple [fr c, fr d])), some (.d (.tuple [fr e, fr f])), some (.d tX), some (.d tY), some (.d tS), some (.d tH), some (.d (insD a b c d)), some (.d (stsD e f)), some (.d (.list Ts)), some (.d (.tuple [fr (a + c), fr (b + d)])), some (.d (.tuple [fr (a - f), fr (b - e)])), some (.d (.list (Ds a b c d e f p q))), some (.d (.tuple [fr p, fr q])), none, none, none, none, none, none, none], S⟩ := by
  have r1 := ts_1 (k + 18) a b c d e f S hab hcd hef
  have r2 := ts_2 (k + 18) a b c d e f S hab hcd hef
  have r3 := ts_3 (k + 18) a b c d e f S hab hcd
  have r4 := ts_4 (k + 18) a b c d e f S hab
  have r5 := ts_5 (k + 18) a b c d e f S hef
  have r6 := ts_6 (k + 8) a b c d e f S hab hcd hef
  have r7 := ts_7 (k + 8) a b c d e f S hab hcd hef
  have r9 := ts_9 (k + 18) a b c d e f S hab hcd hef
  have al1 := alike_s (k + 29) (.list (Ds a b c d e f p q)) rfl (by simp only [Ds, sz, szL, szF]; omega) S
  unfold Ds at al1
  unfold wB wC Ts Ds
  simp (disch := (first | omega | (simp only [List.length_cons, List.length_nil] <;> omega) | fail)) only [e_sNil, e_sSeq, e_sRet, e_sRetN, e_sBrk, e_sCnt, e_sRetV, e_sIf, e_sDrop, e_sAsg, e_sAsg2, e_sPar2, e_sPar3, e_sFor, fornx_nx, fornx_ct, fornx_bk, fornx_rt, e_forL_nil, e_forL_cons, e_gOwn, e_gVal, e_gShare0, e_gsNil, e_gsCons, e_gTpT, e_gTpL, e_gTpF, e_cC, e_vl, e_cVar, e_firstVar, e_firstVal, e_lateVar, e_lateVal, e_cOp1, e_cOp2, e_aNil, e_aCons, e_aStar, e_cTup, e_cLst, e_cCall, e_cCallV, e_fnOf, e_fnOf_, e_cIf, e_tB, e_tTru, e_cNotM, e_tNotM, e_tru1, e_cAnd1, e_cAnd2, e_cOr1, e_cOr2, e_tAnd1, e_tAnd2, e_tOr1, e_tOr2, e_tYes, e_optN, e_optS, e_cCut, e_cTab, e_iVal, e_iVar, e_seqL, e_seqT, e_iRange1, e_iRange2, e_intO, e_strO, e_iZipM, e_zipL, e_zipT, e_pairs, e_pairs0, e_cLc, e_lcN, e_lcC, e_cLc2, e_loN, e_loC, e_cMt1, e_fFlIf, e_fSIf, e_cMt0, e_gSet, e_sAugS, e_lstAt, e_lstFl, e_lstRef0, e_putAt, putO_fl, putO_ref0, e_endRt, e_endNx, le_lim, lt_lim, e_add, e_addT, e_addL, e_sub, e_mul, e_div, e_mod, e_lt, e_le, e_gt, e_ge, e_abs, e_neg, e_int1, e_addI, e_subI, e_truB, e_truI, e_truL, e_truT, e_itT, e_itL, e_lenT, e_lenL, e_tupT, e_tupL, e_appd, e_eqI, e_neI, e_eqS, e_eqB, e_neB, nthD_0, nthD_s, e_ixT, e_ixL, e_ixT0, e_ixT1, e_ixT2, e_ixT3, e_ixT4, e_ixT5, e_ixT6, e_ixT7, e_ixL0, e_ixL1, e_ixL2, e_ixL3, e_ixL4, e_ixL5, e_ixL6, e_ixL7, e_ixR00, e_ixR01, e_ixR02, e_ixR03, e_map, e_atI0, e_atI1, e_atI2, e_atI3, e_ixN0, e_ixN1, e_ixN2, e_ixN3, cut_from0, cut_from1, cut_from2, cut_from3, cut_to0, cut_to1, cut_to2, cut_to3, e_cutT, e_cutL, hide_d, wipe_n, wipe_c, hideG_d, hideG_o, hideG_n, e_kRet, e_kNx, e_kAsg, e_kAsg2b, e_kAsg2, e_kPar2c, e_kPar2b, e_kPar2a, e_kPar3d, e_kPar3c, e_kPar3b, e_kPar3a, e_kFor, e_kForB, e_kAugC, e_kAugB, e_kRetV, e_kToD, e_kFv, e_kOk, e_kOp1c, e_kOp1, e_kOp2d, e_kOp2c, e_kOp2b, e_kOp2a, e_kConsB, e_kCons, e_kStarC, e_kStarB, e_kStarA, e_kStar, e_kTup, e_kLst, e_kCall, e_kCallVB, e_kCallV, e_kOkB, e_kTruB, e_kTru, e_kNotM, e_kTNot, e_kTru1B, e_kTru1, e_kOptB, e_kOpt, e_kCutD, e_kCutC, e_kCutB, e_kCut, e_kOkD, e_kTabB, e_kTab, e_kOkL, e_kIVal, e_kRg1B, e_kRg1, e_kRg2D, e_kRg2C, e_kRg2B, e_kRg2, e_kZipB, e_kZip, e_kLc, e_kLcA, e_kLc2, e_kLoD, e_kLoC, e_kLoA, e_kMtC, e_kMtB, e_kMtA, e_kMt0, e_kSetD, e_kSetC, e_kSetB, e_kSetA, e_kAsG, e_kAsF, e_kAsE, e_kAsD, e_kAsC, e_kAsB, e_kAsA, e_kAs, e_kGs, e_kIfS1, e_kIfS0, cvG_d, cvG_fl, e_kIfE1, e_kIfE0, e_kTB, e_kAndE1, e_kAndE0, e_kOrE1, e_kOrE0, e_ktAnd1, e_ktAnd0, e_ktOr1, e_ktOr0, ivG_fl, ivG_l, ivG_t, e_kLcC, e_kLcB1, e_kLcB0, RcO_ok, e_kLoB1, e_kLoB0, slotO_0, slotO_s, set_0, set_s, ofO_some, ofOF_some, ofRc_ok, RcB_ok, bind_ok, fl_ok, Fl.seq_nx, Fl.seq_rt, Fl.seq_bk, Fl.seq_ct, toD_d, toD_fl, beq_self_eq_true, eq_self, p1018, p1012, p109, cDivS, cModP, Int.reduceMod, Int.reduceSub, Int.reduceAdd, Int.reduceNeg, Int.reduceLT, Int.reduceLE, Int.reduceEq, Int.reduceMul, Int.reduceDiv, List.length_cons, List.length_nil, Nat.reduceAdd, Nat.reduceLT, Nat.reduceLeDiff, Nat.reduceEqDiff, if_true, if_false, Bool.false_eq_true, reduceIte, reduceCtorEq, Nat.zero_lt_succ, Option.bind_some, Option.map_some, Option.isSome_some, List.cons_append, List.nil_append, decide_true, decide_false, Bool.not_true, Bool.not_false, List.isEmpty_nil, List.isEmpty_cons, Nat.zero_add, List.map_cons, List.map_nil, List.drop_succ_cons, List.drop_zero, List.take_succ_cons, List.take_zero, ix_fr0, ix_fr1, r1, r2, r3, r4, r5, r6, r7, r8, r9]
  rw [al1]
  walk_at "y0"
theorem terms_good_s (k : Nat) (a b c d e f : Rat) [Bt a 90] [Bt b 90] [Bt c 90] [Bt d 90] [Bt e 90] [Bt f 90] (hab : a ≤ b) (hcd : c ≤ d) (hef : e ≤ f) (n : Nat) (hn : n ≤ 80000) (S : List Ob) (hb : Bag n S) :
    ∃ S', callN pg (k + 31) 88 [.dict [(.dict [], .int 0)], .tuple [fr a, fr b], .tuple [fr c, fr d], .tuple [fr e, fr f]] S = .ok (.d (.bool true)) S' ∧ Bag (n + 9) S' := by
  obtain ⟨p, q, hp, hpq, tp, tq, hl, hv⟩ := at_p a b c d e f S hab hcd hef
  have t8 : ∀ k, callN pg (k + 22) 46 [T8, insD a b c d, stsD e f] S = .ok (.d (.tuple [fr p, fr q])) S := fun k => term1 (k + 10) p q S _ _ _ hpq (by omega) (mon1 (k + 10) p q S atP _ _ hpq (by omega) (hp k))
  have u1 := cs_1 (k + 16) a b c d e f S hab hcd hef
  have u2 := cs_2 (k + 16) a b c d e f S hab hcd hef
  have al2 := alike_s (k + 29) (.list [.tuple [fr (a + c), fr (b + d)], .tuple [fr (a - f), fr (b - e)]]) rfl (by simp only [sz, szL, szF]; omega) S
  obtain ⟨S', o16, o17, o18, hg, hb'⟩ := terms_go (k + 10) a b c d e f p q hab hcd hef hpq hv (some (.d tX)) (some (.d tY)) (some (.d tS)) (some (.d tH)) (some (.d (insD a b c d))) (some (.d (stsD e f)))
    (some (.d (.tuple [fr (a + c), fr (b + d)]))) (some (.d (.tuple [fr (a - f), fr (b - e)]))) (some (.d (.tuple [fr p, fr q]))) (some (.d (.list [.tuple [fr (a + c), fr (b + d)], .tuple [fr (a - f), fr (b - e)]]))) [.int 0, .int 1, .int 2] n (by simp; omega) S hb none none none
  unfold wT Ts Ds insD stsD at hg
  rw [show k + 10 + 20 = k + 30 by omega] at hg
  refine ⟨S', ?_, hb'⟩
  rw [c88, terms_A k a b c d e f p q hab hcd hef S hl, terms_B k a b c d e f p q hab hcd hef S (t8 (k + 8))]
  unfold wC Ts Ds
  walk_at "y0"
  rw [u1]
  walk_at "y0"
  rw [u2]
  walk_at "y0"
  rw [al2]
  walk_at "y0"
  rw [rngOk (n := 3) (by omega) (by omega), if_pos rfl]
  walk_at "y0"
  rw [row3, hg]
  walk_at "y0"
end K03


set_option Elab.async false
set_option linter.all false
set_option linter.unusedSimpArgs false
set_option exponentiation.threshold 20000
set_option maxRecDepth 100000
set_option maxHeartbeats 4000000
namespace K03
open PySem PySem.Spec L2 Mi
/-! KS14: rows are as told. -/
def cE (call : Calls) (m : Int) : T → R GV := kIfE (cCall call 66 (aCons (cVar 16) (aCons (cCall call 73 (aCons (cOp2 fSub (.var 8) (.val (cC (.int (6))))) aNil)) aNil))) (cVar 16) (decide (0 < m))
theorem bt_e {x : D} (h : x ∈ [fr 0, fr (mkRat 1 8), fr (mkRat 1 100), fr 3]) : ∃ q, x = fr q ∧ Bt q 7 := by
  simp only [List.mem_cons, List.not_mem_nil, or_false] at h
  rcases h with rfl | rfl | rfl | rfl
  · exact ⟨_, rfl, instBt0.le (by omega)⟩
  · exact ⟨_, rfl, (inferInstance : Bt (mkRat 1 8) 4).le (by omega)⟩
  · exact ⟨_, rfl, (inferInstance : Bt (mkRat 1 100) 7)⟩
  · exact ⟨_, rfl, (inferInstance : Bt 3 2).le (by omega)⟩
local macro_rules | `(tactic| walk_at "r0") => `(tactic| try simp (disch := (first | omega | (simp only [List.length_cons, List.length_nil] <;> omega) | fail)) only [e_sNil, e_sSeq, e_sRet, e_sRetN, e_sBrk, e_sCnt, e_sRetV, e_sIf, e_sDrop, e_sAsg, e_sAsg2, e_sPar2, e_sPar3, e_sFor, fornx_nx, fornx_ct, fornx_bk, fornx_rt, e_forL_nil, e_forL_cons, e_gOwn, e_gVal, e_gShare0, e_gsNil, e_gsCons, e_gTpT, e_gTpL, e_gTpF, e_cC, e_vl, e_cVar, e_firstVar, e_firstVal, e_lateVar, e_lateVal, e_cOp1, e_cOp2, e_aNil, e_aCons, e_aStar, e_cTup, e_cLst, e_cCall, e_cCallV, e_fnOf, e_fnOf_, e_cIf, e_tB, e_tTru, e_cNotM, e_tNotM, e_tru1, e_cAnd1, e_cAnd2, e_cOr1, e_cOr2, e_tAnd1, e_tAnd2, e_tOr1, e_tOr2, e_tYes, e_optN, e_optS, e_cCut, e_cTab, e_iVal, e_iVar, e_seqL, e_seqT, e_iRange1, e_iRange2, e_intO, e_strO, e_iZipM, e_zipL, e_zipT, e_pairs, e_pairs0, e_cLc, e_lcN, e_lcC, e_cLc2, e_loN, e_loC, e_cMt1, e_fFlIf, e_fSIf, e_cMt0, e_gSet, e_sAugS, e_lstAt, e_lstFl, e_lstRef0, e_putAt, putO_fl, putO_ref0, e_endRt, e_endNx, le_lim, lt_lim, e_add, e_addT, e_addL, e_sub, e_mul, e_div, e_mod, e_lt, e_le, e_gt, e_ge, e_abs, e_neg, e_int1, e_addI, e_subI, e_truB, e_truI, e_truL, e_truT, e_itT, e_itL, e_lenT, e_lenL, e_tupT, e_tupL, e_appd, e_eqI, e_neI, e_eqS, e_eqB, e_neB, nthD_0, nthD_s, e_ixT, e_ixL, e_ixT0, e_ixT1, e_ixT2, e_ixT3, e_ixT4, e_ixT5, e_ixT6, e_ixT7, e_ixL0, e_ixL1, e_ixL2, e_ixL3, e_ixL4, e_ixL5, e_ixL6, e_ixL7, e_ixR00, e_ixR01, e_ixR02, e_ixR03, e_map, e_atI0, e_atI1, e_atI2, e_atI3, e_ixN0, e_ixN1, e_ixN2, e_ixN3, cut_from0, cut_from1, cut_from2, cut_from3, cut_to0, cut_to1, cut_to2, cut_to3, e_cutT, e_cutL, hide_d, wipe_n, wipe_c, hideG_d, hideG_o, hideG_n, e_kRet, e_kNx, e_kAsg, e_kAsg2b, e_kAsg2, e_kPar2c, e_kPar2b, e_kPar2a, e_kPar3d, e_kPar3c, e_kPar3b, e_kPar3a, e_kFor, e_kForB, e_kAugC, e_kAugB, e_kRetV, e_kToD, e_kFv, e_kOk, e_kOp1c, e_kOp1, e_kOp2d, e_kOp2c, e_kOp2b, e_kOp2a, e_kConsB, e_kCons, e_kStarC, e_kStarB, e_kStarA, e_kStar, e_kTup, e_kLst, e_kCall, e_kCallVB, e_kCallV, e_kOkB, e_kTruB, e_kTru, e_kNotM, e_kTNot, e_kTru1B, e_kTru1, e_kOptB, e_kOpt, e_kCutD, e_kCutC, e_kCutB, e_kCut, e_kOkD, e_kTabB, e_kTab, e_kOkL, e_kIVal, e_kRg1B, e_kRg1, e_kRg2D, e_kRg2C, e_kRg2B, e_kRg2, e_kZipB, e_kZip, e_kLc, e_kLcA, e_kLc2, e_kLoD, e_kLoC, e_kLoA, e_kMtC, e_kMtB, e_kMtA, e_kMt0, e_kSetD, e_kSetC, e_kSetB, e_kSetA, e_kAsG, e_kAsF, e_kAsE, e_kAsD, e_kAsC, e_kAsB, e_kAsA, e_kAs, e_kGs, e_kIfS1, e_kIfS0, cvG_d, cvG_fl, e_kIfE1, e_kIfE0, e_kTB, e_kAndE1, e_kAndE0, e_kOrE1, e_kOrE0, e_ktAnd1, e_ktAnd0, e_ktOr1, e_ktOr0, ivG_fl, ivG_l, ivG_t, e_kLcC, e_kLcB1, e_kLcB0, RcO_ok, e_kLoB1, e_kLoB0, slotO_0, slotO_s, set_0, set_s, ofO_some, ofOF_some, ofRc_ok, RcB_ok, bind_ok, fl_ok, Fl.seq_nx, Fl.seq_rt, Fl.seq_bk, Fl.seq_ct, toD_d, toD_fl, beq_self_eq_true, eq_self, p1018, p1012, p109, cDivS, cModP, Int.reduceMod, Int.reduceSub, Int.reduceAdd, Int.reduceNeg, Int.reduceLT, Int.reduceLE, Int.reduceEq, Int.reduceMul, Int.reduceDiv, List.length_cons, List.length_nil, Nat.reduceAdd, Nat.reduceLT, Nat.reduceLeDiff, Nat.reduceEqDiff, if_true, if_false, Bool.false_eq_true, reduceIte, reduceCtorEq, Nat.zero_lt_succ, Option.bind_some, Option.map_some, Option.isSome_some, List.cons_append, List.nil_append, decide_true, decide_false, Bool.not_true, Bool.not_false, List.isEmpty_nil, List.isEmpty_cons, Nat.zero_add, List.map_cons, List.map_nil, List.drop_succ_cons, List.drop_zero, List.take_succ_cons, List.take_zero, ix_fr0, ix_fr1, fr0, fr1, fr18, fr1100, fr3, ladd_s, lmul_s, ltwo2_s, ltwo3_s, ltwo4_s, ltwo5_s])
local macro_rules | `(tactic| walk_at "r1") => `(tactic| try simp (disch := (first | omega | (simp only [List.length_cons, List.length_nil] <;> omega) | fail)) only [e_sNil, e_sSeq, e_sRet, e_sRetN, e_sBrk, e_sCnt, e_sRetV, e_sIf, e_sDrop, e_sAsg, e_sAsg2, e_sPar2, e_sPar3, e_sFor, fornx_nx, fornx_ct, fornx_bk, fornx_rt, e_forL_nil, e_forL_cons, e_gOwn, e_gVal, e_gShare0, e_gsNil, e_gsCons, e_gTpT, e_gTpL, e_gTpF, e_cC, e_vl, e_cVar, e_firstVar, e_firstVal, e_lateVar, e_lateVal, e_cOp1, e_cOp2, e_aNil, e_aCons, e_aStar, e_cTup, e_cLst, e_cCall, e_cCallV, e_fnOf, e_fnOf_, e_cIf, e_tB, e_tTru, e_cNotM, e_tNotM, e_tru1, e_cAnd1, e_cAnd2, e_cOr1, e_cOr2, e_tAnd1, e_tAnd2, e_tOr1, e_tOr2, e_tYes, e_optN, e_optS, e_cCut, e_cTab, e_iVal, e_iVar, e_seqL, e_seqT, e_iRange1, e_iRange2, e_intO, e_strO, e_iZipM, e_zipL, e_zipT, e_pairs, e_pairs0, e_cLc, e_lcN, e_lcC, e_cLc2, e_loN, e_loC, e_cMt1, e_fFlIf, e_fSIf, e_cMt0, e_gSet, e_sAugS, e_lstAt, e_lstFl, e_lstRef0, e_putAt, putO_fl, putO_ref0, e_endRt, e_endNx, le_lim, lt_lim, e_add, e_addT, e_addL, e_sub, e_mul, e_div, e_mod, e_lt, e_le, e_gt, e_ge, e_abs, e_neg, e_int1, e_addI, e_subI, e_truB, e_truI, e_truL, e_truT, e_itT, e_itL, e_lenT, e_lenL, e_tupT, e_tupL, e_appd, e_eqI, e_neI, e_eqS, e_eqB, e_neB, nthD_0, nthD_s, e_ixT, e_ixL, e_ixT0, e_ixT1, e_ixT2, e_ixT3, e_ixT4, e_ixT5, e_ixT6, e_ixT7, e_ixL0, e_ixL1, e_ixL2, e_ixL3, e_ixL4, e_ixL5, e_ixL6, e_ixL7, e_ixR00, e_ixR01, e_ixR02, e_ixR03, e_map, e_atI0, e_atI1, e_atI2, e_atI3, e_ixN0, e_ixN1, e_ixN2, e_ixN3, cut_from0, cut_from1, cut_from2, cut_from3, cut_to0, cut_to1, cut_to2, cut_to3, e_cutT, e_cutL, hide_d, wipe_n, wipe_c, hideG_d, hideG_o, hideG_n, e_kRet, e_kNx, e_kAsg, e_kAsg2b, e_kAsg2, e_kPar2c, e_kPar2b, e_kPar2a, e_kPar3d, e_kPar3c, e_kPar3b, e_kPar3a, e_kFor, e_kForB, e_kAugC, e_kAugB, e_kRetV, e_kToD, e_kFv, e_kOk, e_kOp1c, e_kOp1, e_kOp2d, e_kOp2c, e_kOp2b, e_kOp2a, e_kConsB, e_kCons, e_kStarC, e_kStarB, e_kStarA, e_kStar, e_kTup, e_kLst, e_kCall, e_kCallVB, e_kCallV, e_kOkB, e_kTruB, e_kTru, e_kNotM, e_kTNot, e_kTru1B, e_kTru1, e_kOptB, e_kOpt, e_kCutD, e_kCutC, e_kCutB, e_kCut, e_kOkD, e_kTabB, e_kTab, e_kOkL, e_kIVal, e_kRg1B, e_kRg1, e_kRg2D, e_kRg2C, e_kRg2B, e_kRg2, e_kZipB, e_kZip, e_kLc, e_kLcA, e_kLc2, e_kLoD, e_kLoC, e_kLoA, e_kMtC, e_kMtB, e_kMtA, e_kMt0, e_kSetD, e_kSetC, e_kSetB, e_kSetA, e_kAsG, e_kAsF, e_kAsE, e_kAsD, e_kAsC, e_kAsB, e_kAsA, e_kAs, e_kGs, e_kIfS1, e_kIfS0, cvG_d, cvG_fl, e_kIfE1, e_kIfE0, e_kTB, e_kAndE1, e_kAndE0, e_kOrE1, e_kOrE0, e_ktAnd1, e_ktAnd0, e_ktOr1, e_ktOr0, ivG_fl, ivG_l, ivG_t, e_kLcC, e_kLcB1, e_kLcB0, RcO_ok, e_kLoB1, e_kLoB0, slotO_0, slotO_s, set_0, set_s, ofO_some, ofOF_some, ofRc_ok, RcB_ok, bind_ok, fl_ok, Fl.seq_nx, Fl.seq_rt, Fl.seq_bk, Fl.seq_ct, toD_d, toD_fl, beq_self_eq_true, eq_self, p1018, p1012, p109, cDivS, cModP, Int.reduceMod, Int.reduceSub, Int.reduceAdd, Int.reduceNeg, Int.reduceLT, Int.reduceLE, Int.reduceEq, Int.reduceMul, Int.reduceDiv, List.length_cons, List.length_nil, Nat.reduceAdd, Nat.reduceLT, Nat.reduceLeDiff, Nat.reduceEqDiff, if_true, if_false, Bool.false_eq_true, reduceIte, reduceCtorEq, Nat.zero_lt_succ, Option.bind_some, Option.map_some, Option.isSome_some, List.cons_append, List.nil_append, decide_true, decide_false, Bool.not_true, Bool.not_false, List.isEmpty_nil, List.isEmpty_cons, Nat.zero_add, List.map_cons, List.map_nil, List.drop_succ_cons, List.drop_zero, List.take_succ_cons, List.take_zero, ix_fr0, ix_fr1, fr0, fr1, fr18, fr1100, fr3, ladd_s, lmul_s, lfar_s, lfour_s, lspan_mul_s, lgreater_s, sum_add_s, sum_sub_s, chosen_least_s, chosen_most_s, e_appd])
instance instBtMErr {a b c d e f : Rat} {na nb nc nd ne nf : Nat} [Bt a na] [Bt b nb] [Bt c nc] [Bt d nd] [Bt e ne] [Bt f nf] : Bt (mErr a b c d e f) (max na nb + nf + (max nc nd + ne) + 1 + (ne + nf) + 1) := by unfold mErr; infer_instance
theorem mul_any (a b c d e f : Rat) [Bt a 90] [Bt b 90] [Bt c 90] [Bt d 90] [Bt e 7] [Bt f 7] (m : Int) (h0 : 0 ≤ m) (h1 : m < 5) : ∃ E, Bt E 400 ∧
    (∀ k S, callN pg (k + 6) 57 [.tuple [.int 3, fr a, fr b, fr e], .tuple [.int 3, fr c, fr d, fr f], .int m] S = .ok (.d (.tuple [.int (6 - m), fr (mlo a b c d), fr (mhi a b c d), fr E])) S) ∧
    ∀ k S (o0 o1 o2 o3 o4 o5 o6 o7 o9 o10 o11 o12 o13 o14 o15 : Option GV) (r : List (Option GV)), cE (callN pg (k + 4)) m ⟨o0 :: o1 :: o2 :: o3 :: o4 :: o5 :: o6 :: o7 :: some (.d (.int m)) :: o9 :: o10 :: o11 :: o12 :: o13 :: o14 :: o15 :: some (.d (fr (mErr a b c d e f))) :: r, S⟩ =
      .ok (.d (fr E)) ⟨o0 :: o1 :: o2 :: o3 :: o4 :: o5 :: o6 :: o7 :: some (.d (.int m)) :: o9 :: o10 :: o11 :: o12 :: o13 :: o14 :: o15 :: some (.d (fr (mErr a b c d e f))) :: r, S⟩ := by
  rcases (show m = 0 ∨ m = 1 ∨ m = 2 ∨ m = 3 ∨ m = 4 by omega) with rfl | rfl | rfl | rfl | rfl
  · refine ⟨mErr a b c d e f, instBtMErr.le (by omega), fun k S => mul_row0_s k a b c d e f S (by omega), fun k S o0 o1 o2 o3 o4 o5 o6 o7 o9 o10 o11 o12 o13 o14 o15 r => ?_⟩
    unfold cE
    walk_at "r0"
  · haveI : Bt (uR 1) 6 := (show Bt (mkRat 1 32) _ from inferInstance).le (by omega)
    refine ⟨mErr a b c d e f + uR 1, instBtAdd.le (by omega), fun k S => mul_row1_s k a b c d e f S (by omega), fun k S o0 o1 o2 o3 o4 o5 o6 o7 o9 o10 o11 o12 o13 o14 o15 r => ?_⟩
    unfold cE
    walk_at "r0"
    rfl
  · haveI : Bt (uR 2) 6 := (show Bt (mkRat 1 16) _ from inferInstance).le (by omega)
    refine ⟨mErr a b c d e f + uR 2, instBtAdd.le (by omega), fun k S => mul_row2_s k a b c d e f S (by omega), fun k S o0 o1 o2 o3 o4 o5 o6 o7 o9 o10 o11 o12 o13 o14 o15 r => ?_⟩
    unfold cE
    walk_at "r0"
    rfl
  · haveI : Bt (uR 3) 6 := (show Bt (mkRat 1 8) _ from inferInstance).le (by omega)
    refine ⟨mErr a b c d e f + uR 3, instBtAdd.le (by omega), fun k S => mul_row3_s k a b c d e f S (by omega), fun k S o0 o1 o2 o3 o4 o5 o6 o7 o9 o10 o11 o12 o13 o14 o15 r => ?_⟩
    unfold cE
    walk_at "r0"
    rfl
  · haveI : Bt (uR 4) 6 := (show Bt (mkRat 1 4) _ from inferInstance).le (by omega)
    refine ⟨mErr a b c d e f + uR 4, instBtAdd.le (by omega), fun k S => mul_row4_s k a b c d e f S (by omega), fun k S o0 o1 o2 o3 o4 o5 o6 o7 o9 o10 o11 o12 o13 o14 o15 r => ?_⟩
    unfold cE
    walk_at "r0"
    rfl
theorem pick_any (a b c d l h e f g : Rat) [Bt a 90] [Bt b 90] [Bt c 90] [Bt d 90] [Bt l 90] [Bt h 90] [Bt e 7] [Bt f 7] [Bt g 7] (hab : a ≤ b) (hlh : l ≤ h) : ∃ L H E, Bt E 400 ∧
    (∀ k S, callN pg (k + 6) 60 [.tuple [.int 3, fr a, fr b, fr e], .tuple [.int 3, fr c, fr d, fr f], .tuple [.int 3, fr l, fr h, fr g], .tuple [.int 3, fr a, fr b, fr e]] S = .ok (.d (.tuple [.int 3, fr L, fr H, fr E])) S) ∧
    ∀ k S, callN pg (k + 5) 76 [.tuple [.int 3, fr a, fr b, fr e], .tuple [.int 3, fr c, fr d, fr f], .tuple [.int 3, fr l, fr h, fr g], .tuple [.int 3, fr a, fr b, fr e]] S = .ok (.d (.tuple [fr L, fr H, fr E])) S := by
  by_cases z1 : b + (e + f) < c
  · exact ⟨l, h, g, Bt.le ‹Bt g 7› (by omega), fun k S => pick_row1_s k a b c d e f S l h g a b e 3 3 3 3 z1 (by omega) (by omega), fun k S => lpick1_s k a b c d e f S l h g a b e 3 3 3 3 z1 (by omega) (by omega)⟩
  · by_cases z2 : a - (e + f) < d
    · refine ⟨rmin l a, rmax h b, pkE e f l h g a b e, ?_, fun k S => pick_row3_s k a b c d e f S l h g a b e 3 3 3 3 z1 z2 (by omega) (by omega), fun k S => lpick3_s k a b c d e f S l h g a b e 3 3 3 3 z1 z2 (by omega) (by omega) hlh hab⟩
      unfold pkE; split
      · exact instBtMax.le (by omega)
      · exact instBtAdd.le (by omega)
    · exact ⟨a, b, e, Bt.le ‹Bt e 7› (by omega), fun k S => pick_row2_s k a b c d e f S l h g a b e 3 3 3 3 z1 z2 (by omega) (by omega), fun k S => lpick2_s k a b c d e f S l h g a b e 3 3 3 3 z1 z2 (by omega) (by omega)⟩
theorem rows_good_s (k : Nat) (a b c d l h : Rat) [Bt a 90] [Bt b 90] [Bt c 90] [Bt d 90] [Bt l 90] [Bt h 90] (hab : a ≤ b) (hlh : l ≤ h) (n : Nat) (hn : n ≤ 80000) (S : List Ob) (hb : Bag n S) :
    ∃ S', callN pg (k + 12) 89 [.dict [(.dict [], .int 0)], .tuple [fr a, fr b], .tuple [fr c, fr d], .tuple [fr l, fr h]] S = .ok (.d (.bool true)) S' ∧ Bag (n + 4) S' := by
  obtain ⟨x1, S1, m1, g1, b1⟩ := some_s (k + 9) [fr 0, fr (mkRat 1 8), fr (mkRat 1 100), fr 3] (by simp) (by simp) n (by omega) S hb
  obtain ⟨x2, S2, m2, g2, b2⟩ := some_s (k + 9) [fr 0, fr (mkRat 1 8), fr (mkRat 1 100), fr 3] (by simp) (by simp) (n + 1) (by omega) S1 b1
  obtain ⟨x3, S3, m3, g3, b3⟩ := some_s (k + 9) [fr 0, fr (mkRat 1 8), fr (mkRat 1 100), fr 3] (by simp) (by simp) (n + 2) (by omega) S2 b2
  obtain ⟨e, rfl, te⟩ := bt_e m1
  obtain ⟨f, rfl, tf⟩ := bt_e m2
  obtain ⟨g, rfl, tg⟩ := bt_e m3
  obtain ⟨m, S4, g4, v0, v1, b4⟩ := take_s (k + 10) 5 (by omega) (by omega) (n + 3) (by omega) S3 b3
  obtain ⟨E, tE, hm, hc⟩ := mul_any a b c d e f m v0 v1
  obtain ⟨L, H, E2, tE2, hp, hq⟩ := pick_any a b c d l h e f g hab hlh
  have hm := hm (k + 5) S4
  have hp := hp (k + 5) S4
  have hq := hq (k + 6) S4
  have hc := hc (k + 7) S4
  unfold cE at hc
  rw [show k + 7 + 4 = k + 11 by omega] at hc
  have eE : rmax (rabs a) (rabs b) * f + (rmax (rabs c) (rabs d) * e + e * f) = mErr a b c d e f := by unfold mErr; rw [Rat.add_assoc]
  refine ⟨S4, ?_, b4⟩
  rw [c89]; unfold b89
  walk_at "r0"
  rw [rngOk (n := 3) (by omega) (by omega), if_pos rfl, row3]
  walk_at "r0"
  rw [g1]
  walk_at "r0"
  rw [g2]
  walk_at "r0"
  rw [g3]
  walk_at "r0"
  rw [g4]
  walk_at "r1"
  rw [hm]
  walk_at "r1"
  rw [eE, hc]
  walk_at "r1"
  rw [hp]
  walk_at "r1"
  rw [hq]
  walk_at "r1"
  rw [alike_s _ _ ?_ ?_]
  · walk_at "r1"
  · simp only [good, goodL, goodF, Bool.true_and, Bool.and_true, Bool.and_self]
  · simp only [sz, szL, szF]; omega
end K03


set_option Elab.async false
set_option linter.all false
set_option linter.unusedSimpArgs false
set_option exponentiation.threshold 20000
set_option maxRecDepth 100000
set_option maxHeartbeats 4000000
namespace K03
open PySem PySem.Spec L2 Mi
/-! KS15: the law. -/
def wL (call : Calls) : St' := (sSeq (sPar3 3 .own 4 .own 5 .own (cCall call 78 (aCons (cVar 1) aNil)) (cCall call 78 (aCons (cVar 1) aNil)) (cCall call 78 (aCons (cVar 1) aNil))) (sSeq (sAsg (gNm 6 .own) (cCall call 63 (aCons (cVar 1) (aCons (cLst (aCons (cCall call 77 (aCons (cVar 1) aNil)) (aCons (cCall call 79 (aCons (cVar 1) (aCons (cVar 3) aNil))) (aCons (cOp2 fIx (.var 3) (.val (cC (.int (0))))) (aCons (cOp2 fIx (.var 3) (.val (cC (.int (1))))) aNil))))) aNil)))) (sSeq (sIf (tNotM (tTru (.val (cCall call 85 (aCons (cVar 3) (aCons (cCall call 63 (aCons (cVar 1) (aCons (cLst (aCons (cVar 4) (aCons (cVar 3) (aCons (cTup (aCons (cOp2 fIx (.var 3) (.val (cC (.int (0))))) (aCons (cOp2 fIx (.var 3) (.val (cC (.int (0))))) aNil))) aNil)))) aNil))) (aCons (cCall call 70 (aCons (cCall call 77 (aCons (cVar 1) aNil)) aNil)) (aCons (cVar 6) aNil)))))))) (sRet (cC (.bool false))) sNil) (sSeq (sIf (tNotM (tTru (.val (cCall call 86 (aCons (cVar 1) (aCons (cVar 3) aNil)))))) (sRet (cC (.bool false))) sNil) (sIf (tOrM [(tNotM (tTru (.val (cCall call 88 (aCons (cVar 1) (aCons (cVar 3) (aCons (cVar 4) (aCons (cVar 5) aNil)))))))), (tNotM (tTru (.val (cCall call 89 (aCons (cVar 1) (aCons (cVar 3) (aCons (cVar 4) (aCons (cVar 5) aNil))))))))]) (sRet (cC (.bool false))) sNil)))))
local macro_rules | `(tactic| walk_at "l0") => `(tactic| try simp (disch := (first | omega | (simp only [List.length_cons, List.length_nil] <;> omega) | fail)) only [e_sNil, e_sSeq, e_sRet, e_sRetN, e_sBrk, e_sCnt, e_sRetV, e_sIf, e_sDrop, e_sAsg, e_sAsg2, e_sPar2, e_sPar3, e_sFor, fornx_nx, fornx_ct, fornx_bk, fornx_rt, e_forL_nil, e_forL_cons, e_gOwn, e_gVal, e_gShare0, e_gsNil, e_gsCons, e_gTpT, e_gTpL, e_gTpF, e_cC, e_vl, e_cVar, e_firstVar, e_firstVal, e_lateVar, e_lateVal, e_cOp1, e_cOp2, e_aNil, e_aCons, e_aStar, e_cTup, e_cLst, e_cCall, e_cCallV, e_fnOf, e_fnOf_, e_cIf, e_tB, e_tTru, e_cNotM, e_tNotM, e_tru1, e_cAnd1, e_cAnd2, e_cOr1, e_cOr2, e_tAnd1, e_tAnd2, e_tOr1, e_tOr2, e_tYes, e_optN, e_optS, e_cCut, e_cTab, e_iVal, e_iVar, e_seqL, e_seqT, e_iRange1, e_iRange2, e_intO, e_strO, e_iZipM, e_zipL, e_zipT, e_pairs, e_pairs0, e_cLc, e_lcN, e_lcC, e_cLc2, e_loN, e_loC, e_cMt1, e_fFlIf, e_fSIf, e_cMt0, e_gSet, e_sAugS, e_lstAt, e_lstFl, e_lstRef0, e_putAt, putO_fl, putO_ref0, e_endRt, e_endNx, le_lim, lt_lim, e_add, e_addT, e_addL, e_sub, e_mul, e_div, e_mod, e_lt, e_le, e_gt, e_ge, e_abs, e_neg, e_int1, e_addI, e_subI, e_truB, e_truI, e_truL, e_truT, e_itT, e_itL, e_lenT, e_lenL, e_tupT, e_tupL, e_appd, e_eqI, e_neI, e_eqS, e_eqB, e_neB, nthD_0, nthD_s, e_ixT, e_ixL, e_ixT0, e_ixT1, e_ixT2, e_ixT3, e_ixT4, e_ixT5, e_ixT6, e_ixT7, e_ixL0, e_ixL1, e_ixL2, e_ixL3, e_ixL4, e_ixL5, e_ixL6, e_ixL7, e_ixR00, e_ixR01, e_ixR02, e_ixR03, e_map, e_atI0, e_atI1, e_atI2, e_atI3, e_ixN0, e_ixN1, e_ixN2, e_ixN3, cut_from0, cut_from1, cut_from2, cut_from3, cut_to0, cut_to1, cut_to2, cut_to3, e_cutT, e_cutL, hide_d, wipe_n, wipe_c, hideG_d, hideG_o, hideG_n, e_kRet, e_kNx, e_kAsg, e_kAsg2b, e_kAsg2, e_kPar2c, e_kPar2b, e_kPar2a, e_kPar3d, e_kPar3c, e_kPar3b, e_kPar3a, e_kFor, e_kForB, e_kAugC, e_kAugB, e_kRetV, e_kToD, e_kFv, e_kOk, e_kOp1c, e_kOp1, e_kOp2d, e_kOp2c, e_kOp2b, e_kOp2a, e_kConsB, e_kCons, e_kStarC, e_kStarB, e_kStarA, e_kStar, e_kTup, e_kLst, e_kCall, e_kCallVB, e_kCallV, e_kOkB, e_kTruB, e_kTru, e_kNotM, e_kTNot, e_kTru1B, e_kTru1, e_kOptB, e_kOpt, e_kCutD, e_kCutC, e_kCutB, e_kCut, e_kOkD, e_kTabB, e_kTab, e_kOkL, e_kIVal, e_kRg1B, e_kRg1, e_kRg2D, e_kRg2C, e_kRg2B, e_kRg2, e_kZipB, e_kZip, e_kLc, e_kLcA, e_kLc2, e_kLoD, e_kLoC, e_kLoA, e_kMtC, e_kMtB, e_kMtA, e_kMt0, e_kSetD, e_kSetC, e_kSetB, e_kSetA, e_kAsG, e_kAsF, e_kAsE, e_kAsD, e_kAsC, e_kAsB, e_kAsA, e_kAs, e_kGs, e_kIfS1, e_kIfS0, cvG_d, cvG_fl, e_kIfE1, e_kIfE0, e_kTB, e_kAndE1, e_kAndE0, e_kOrE1, e_kOrE0, e_ktAnd1, e_ktAnd0, e_ktOr1, e_ktOr0, ivG_fl, ivG_l, ivG_t, e_kLcC, e_kLcB1, e_kLcB0, RcO_ok, e_kLoB1, e_kLoB0, slotO_0, slotO_s, set_0, set_s, ofO_some, ofOF_some, ofRc_ok, RcB_ok, bind_ok, fl_ok, Fl.seq_nx, Fl.seq_rt, Fl.seq_bk, Fl.seq_ct, toD_d, toD_fl, beq_self_eq_true, eq_self, p1018, p1012, p109, cDivS, cModP, Int.reduceMod, Int.reduceSub, Int.reduceAdd, Int.reduceNeg, Int.reduceLT, Int.reduceLE, Int.reduceEq, Int.reduceMul, Int.reduceDiv, List.length_cons, List.length_nil, Nat.reduceAdd, Nat.reduceLT, Nat.reduceLeDiff, Nat.reduceEqDiff, if_true, if_false, Bool.false_eq_true, reduceIte, reduceCtorEq, Nat.zero_lt_succ, Option.bind_some, Option.map_some, Option.isSome_some, List.cons_append, List.nil_append, decide_true, decide_false, Bool.not_true, Bool.not_false, List.isEmpty_nil, List.isEmpty_cons, Nat.zero_add, List.map_cons, List.map_nil, List.drop_succ_cons, List.drop_zero, List.take_succ_cons, List.take_zero, ix_fr0, ix_fr1, labs_s])
theorem law_step (k n : Nat) (hn : n ≤ 70000) (S : List Ob) (hb : Bag n S) (o0 o2 o3 o4 o5 o6 : Option GV) :
    ∃ S' p3 p4 p5 p6, wL (callN pg (k + 32)) ⟨[o0, some (.d (.dict [(.dict [], .int 0)])), o2, o3, o4, o5, o6], S⟩ = .nx ⟨[o0, some (.d (.dict [(.dict [], .int 0)])), o2, p3, p4, p5, p6], S'⟩ ∧ Bag (n + 100) S' := by
  obtain ⟨a, b, S1, g1, hab, ta, tb, b1⟩ := lspan_s (k + 28) n (by omega) S hb
  obtain ⟨c, d, S2, g2, hcd, tc, td, b2⟩ := lspan_s (k + 28) (n + 16) (by omega) S1 b1
  obtain ⟨e, f, S3, g3, hef, te, tf, b3⟩ := lspan_s (k + 28) (n + 32) (by omega) S2 b2
  obtain ⟨q, S4, g4, tq, b4⟩ := lpart_s (k + 29) (n + 48) (by omega) S3 b3
  obtain ⟨x, S5, g5, _, _, tx, b5⟩ := linside_s (k + 29) a b hab (n + 53) (by omega) S4 b4
  obtain ⟨y, S6, m6, g6, b6⟩ := some_s (k + 30) [fr q, fr x, fr a, fr b] (by simp) (by simp) (n + 54) (by omega) S5 b5
  obtain ⟨nu, rfl, tn⟩ : ∃ nu, y = fr nu ∧ Bt nu 300 := by
    simp only [List.mem_cons, List.not_mem_nil, or_false] at m6
    rcases m6 with rfl | rfl | rfl | rfl
    · exact ⟨_, rfl, tq.le (by omega)⟩
    · exact ⟨_, rfl, tx⟩
    · exact ⟨_, rfl, ta.le (by omega)⟩
    · exact ⟨_, rfl, tb.le (by omega)⟩
  obtain ⟨z, S7, m7, g7, b7⟩ := some_s (k + 30) [.tuple [fr c, fr d], .tuple [fr a, fr b], .tuple [fr a, fr a]] (by simp) (by simp) (n + 55) (by omega) S6 b6
  obtain ⟨u, v, rfl, tu, tv⟩ : ∃ u v, z = .tuple [fr u, fr v] ∧ Bt u 90 ∧ Bt v 90 := by
    simp only [List.mem_cons, List.not_mem_nil, or_false] at m7
    rcases m7 with rfl | rfl | rfl
    · exact ⟨_, _, rfl, tc, td⟩
    · exact ⟨_, _, rfl, ta, tb⟩
    · exact ⟨_, _, rfl, ta, ta⟩
  obtain ⟨r, S8, g8, tr, b8⟩ := lpart_s (k + 29) (n + 56) (by omega) S7 b7
  haveI : Bt (rabs r) 90 := instBtAbs.le (by omega)
  have g9 := spans_good_s (k + 22) a b u v (rabs r) nu S8 hab
  obtain ⟨S10, g10, b10⟩ := parts_good_s (k + 23) a b hab (n + 61) (by omega) S8 b8
  obtain ⟨S11, g11, b11⟩ := terms_good_s (k + 1) a b c d e f hab hcd hef (n + 63) (by omega) S10 b10
  obtain ⟨S12, g12, b12⟩ := rows_good_s (k + 20) a b c d e f hab hef (n + 72) (by omega) S11 b11
  refine ⟨S12, some (.d (.tuple [fr a, fr b])), some (.d (.tuple [fr c, fr d])), some (.d (.tuple [fr e, fr f])), some (.d (fr nu)), ?_, b12.le (by omega)⟩
  unfold wL
  walk_at "l0"
  rw [g1]
  walk_at "l0"
  rw [g2]
  walk_at "l0"
  rw [g3]
  walk_at "l0"
  rw [g4]
  walk_at "l0"
  rw [g5]
  walk_at "l0"
  rw [g6]
  walk_at "l0"
  rw [g7]
  walk_at "l0"
  rw [g8]
  walk_at "l0"
  rw [g9]
  walk_at "l0"
  rw [g10]
  walk_at "l0"
  rw [g11]
  walk_at "l0"
  rw [g12]
  walk_at "l0"
theorem law_go (k : Nat) (o0 : Option GV) : ∀ (l : List D) (n : Nat), n + 100 * l.length ≤ 70000 → ∀ (S : List Ob), Bag n S → ∀ (o2 o3 o4 o5 o6 : Option GV),
    ∃ S' p2 p3 p4 p5 p6, forL (gNm 2 .own) (wL (callN pg (k + 32))) l ⟨[o0, some (.d (.dict [(.dict [], .int 0)])), o2, o3, o4, o5, o6], S⟩ = .nx ⟨[o0, some (.d (.dict [(.dict [], .int 0)])), p2, p3, p4, p5, p6], S'⟩
  | [], n, hn, S, hb, o2, o3, o4, o5, o6 => ⟨S, o2, o3, o4, o5, o6, rfl⟩
  | x :: l, n, hn, S, hb, o2, o3, o4, o5, o6 => by
    rw [List.length_cons] at hn
    obtain ⟨S1, p3, p4, p5, p6, h1, b1⟩ := law_step k n (by omega) S hb o0 (some (.d x)) o3 o4 o5 o6
    obtain ⟨S2, q2, q3, q4, q5, q6, h2⟩ := law_go k o0 l (n + 100) (by omega) S1 b1 (some (.d x)) p3 p4 p5 p6
    refine ⟨S2, q2, q3, q4, q5, q6, ?_⟩
    rw [e_forL_cons]
    walk_at "l0"
    rw [h1]
    walk_at "l0"
    exact h2
theorem law_s (k : Nat) (ns : List Int) (h : ns.length ≤ 63) : ∃ S', callN pg (k + 33) 90 [dFar (ns.map PyData.int)] [] = .ok (.d (.bool true)) S' := by
  have hb : Bag 0 [.lst [.int 0, .int 1234567891, .int 0, .list (ns.map fun n => PyData.int (n.natAbs : Int))]] := by
    refine ⟨0, 1234567891, 0, ns.map fun n => (n.natAbs : Int), ?_, by omega, by omega, by omega, by omega, by omega, fun c hc => ?_, by rw [List.length_map]; exact h⟩
    · rw [List.map_map]; rfl
    · obtain ⟨x, _, rfl⟩ := List.mem_map.mp hc
      omega
  obtain ⟨S', p2, p3, p4, p5, p6, hg⟩ := law_go k (some (.d (dFar (ns.map PyData.int)))) [.int 0, .int 1, .int 2, .int 3, .int 4, .int 5] 0 (by simp) _ hb none none none none none
  unfold wL at hg
  refine ⟨S', ?_⟩
  rw [c90]; unfold b90
  walk_at "l0"
  rw [bag_s (k + 31) ns h []]
  walk_at "l0"
  rw [rngOk (n := 6) (by omega) (by omega), if_pos rfl]
  walk_at "l0"
  rw [row6, hg]
  walk_at "l0"
end K03


set_option Elab.async false
set_option linter.all false
set_option maxRecDepth 100000
set_option maxHeartbeats 0
namespace K03
open PySem PySem.Spec PyProof.Rows L2 Mi
theorem nm_len : nm.length = pg.fns.length := rfl
theorem rpl_ints {C : Cn} {F : Hp} {m : List Addr} : ∀ ns : List Int, RpL C F m (ns.map V.int) (ns.map PyData.int)
  | [] => .nil
  | n :: ns => .cons (.int n) (rpl_ints ns)
theorem facts {P : Program} {w : World} {K : PySem.W.Frag} {h : Heap} {mg : Str → Option Value} {f : Addr} (X : K.In h) (G : h.Ns mainGlobals mg) (hfa : mg ("law" : Str) = some (.ref f)) (c : SaysM nm pg w K) :
    ∃ (fd : FuncData) (sp : Sp), (∀ (s : Shared) (v : Value), BindsTo s fd ⟨[v], []⟩ [("script", v)]) ∧
      (∀ (H : Hp) (a : Addr) (ns : List Int), ns.length ≤ 63 → SqL K H a (ns.map V.int) → sp [.ref a] H (fun v _ => v = .bl true) fun _ _ _ => False) ∧
      ∀ base : Heap, K.In base → base.Ns mainGlobals mg → FnOk P w K mg base CX0 40 f fd ["script"] sp := by
  have Y : Lay P w K mg ⟨K, faM K nm, pg.kc⟩ pg := lay_of X G c nm_len good_all bd_all
  have hg : pg.glo.lookup ("law" : Str) = some (.fn 90) := by kernel_rfl
  obtain ⟨a, e1, e2⟩ := Y.fn _ _ hg
  rw [hfa] at e1
  cases e1
  obtain ⟨F, x, q, fd, e3, gd, bd, FD⟩ := Y.fns 90 _ e2 rfl
  have hF : F = F90 := by
    have : pg.fns[90]? = some F90 := rfl
    rw [this] at e3
    exact (Option.some.inj e3).symm
  subst hF
  have hps : F90.ps = (["script"] : List Str) := by kernel_rfl
  refine ⟨fd, spF ⟨K, faM K nm, pg.kc⟩ (callN pg 40) 90 1, fun s v => ?_, fun H a ns hl hS => ?_, fun base _ _ => ?_⟩
  · have b := FD.bindsA (ps := F90.ps) (fun kV doc pm an cdv ct us hl => bd x q kV doc pm an cdv ct us hl) s [v] (by rw [hps]; rfl)
    rw [hps] at b
    exact b
  · obtain ⟨S', e⟩ := law_s 7 ns hl
    refine ⟨[], [], [dFar (ns.map PyData.int)], rfl, rfl, ⟨H, [], ⟨fun _ _ z => z, fun z hz => ?_, ?_, rfl, fun n o a z => by simp at z⟩⟩, ?_⟩
    · have : z = (V.ref a, GV.d (dFar (ns.map PyData.int))) := by simpa using hz
      subst this
      exact Rp.far hS (rpl_ints ns)
    · show (own [(V.ref a, GV.d (dFar (ns.map PyData.int)))] ++ []).Nodup
      rw [own_d]; simp [own]
    · show (callN pg (7 + 33) 90 [dFar (ns.map PyData.int)] []).post _
      rw [e]
      intro v H' hs
      exact hs.bl_inv
  · have A := all_defs (base := base) Y (fun k A i a h _ z => by cases z) (fun i a h _ z => by cases z) 39
    have D := runF_ok Y A gd bd FD e2 (call' := callN pg 40) fun xs S => rfl
    have ok := D.ok
    rw [hps] at ok
    exact ok
end K03
open PySem PySem.W PySem.Calls PyProof.Rows
set_option maxRecDepth 100000 in
set_option maxHeartbeats 0 in
theorem PySem.Challenge.cw_scaledcode_k03_intervals_terms_and_rows_holds : PySem.Challenge.rw_scaledcode_k03_intervals_terms_and_rows.Holds := by
  w_on; o_law
  refine HandSHeadRun.head_any (r := K03.Rq) (q := view K03.Rq.prog [K03.lawAt]) (H := K03.hk) (ob := K03.ob) (M := 6000) (loose := K03.names) (d := HandSHeadRun.topDef K03.Rq.prog K03.lawAt) (kwd := []) K03.ob_eq
    (by kernel_rfl) (fun s => by kernel_rfl) K03.run (by kernel_rfl) (by kernel_rfl) (by kernel_rfl) (by rfl) (by first | assumption | decide +kernel) (by decide +kernel) ⟨rfl, rfl, rfl, rfl, rfl, by decide +kernel⟩ ?hw ?hc
  case hw => w_witness2
  case hc =>
    refine L2.walk_ofE (l := PySem.Challenge.rw_scaledcode_k03_intervals_terms_and_rows) (n := 63) (k := 40) (x := "script") (CX := L2.CX0) rfl (by decide) (by kernel_rfl) ⟨rfl, by decide, by decide⟩ ?F (fun _ _ _ _ z => z)
    intro w mg fa h Y G hmg0
    obtain ⟨K, KX, c⟩ := Y
    have hmg : mg ("law" : PySem.Str) = some (.ref fa) := by
      have e : (HandSHeadRun.topDef K03.Rq.prog K03.lawAt).name = ("law" : PySem.Str) := by kernel_rfl
      rw [← e]
      exact hmg0
    obtain ⟨fd, sp, hb, hsp, hF⟩ := K03.facts (P := (PySem.Challenge.rw_scaledcode_k03_intervals_terms_and_rows).prog) (w := w) KX G hmg c
    exact ⟨K, fd, sp, KX, hb, fun H a ns hl _ hS => hsp H a ns hl hS, hF⟩
