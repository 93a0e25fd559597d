import PyProof.Rows.All
import Wide.All
import OpenK.AllK
import Wide.FinOn
import HandS.ForMost
import HandS.ForExc
import HandS.IsInst
import HandS.WideBits
import HandS.More
import HandS.Style
import HandS.Wide
import HandS.TupAny
import HandS.Small
import PyProof.ReprRoads
import PySem.Challenge.RW_nearestpattern_k83_whole_runs_of_codes
set_option Elab.async false
set_option linter.all false
set_option maxRecDepth 100000
/-! The mirror layer, part A: data, the store, what stands for what. -/
namespace MM
open PySem L2

/-- a Python value without the heap: tuples are data, what may change is a number into the store -/
inductive D where
  | non | bl (b : Bool) | int (i : Int) | str (s : Str) | tup (ds : List D) | rl (ds : List D) | ref (n : Nat)

/-- what the store holds -/
inductive O where
  | lst (xs : List D)
  | dct (kvs : List (Key × D))
  | ins (c : Str) (fs : List (Str × D))

/-! ### the store: a tree by the bits of the number -/
inductive Tr where
  | lf | nd (l : Tr) (v : Option O) (r : Tr)
def Tr.get : Tr → Nat → Option O
  | .lf, _ => none
  | .nd l v r, n => if n = 0 then v else if n % 2 = 1 then l.get (n / 2) else r.get (n / 2 - 1)
def Tr.setF : Nat → Tr → Nat → O → Tr
  | 0, t, _, _ => t
  | f + 1, .lf, n, o => if n = 0 then .nd .lf (some o) .lf else if n % 2 = 1 then .nd (Tr.setF f .lf (n / 2) o) none .lf else .nd .lf none (Tr.setF f .lf (n / 2 - 1) o)
  | f + 1, .nd l v r, n, o => if n = 0 then .nd l (some o) r else if n % 2 = 1 then .nd (Tr.setF f l (n / 2) o) v r else .nd l v (Tr.setF f r (n / 2 - 1) o)
theorem Tr.get_nd (l r : Tr) (v : Option O) (n : Nat) : (Tr.nd l v r).get n = if n = 0 then v else if n % 2 = 1 then l.get (n / 2) else r.get (n / 2 - 1) := rfl
theorem Tr.get_lf (n : Nat) : Tr.lf.get n = none := rfl
theorem Tr.step (l r l' r' : Tr) (v v' : Option O) (n m : Nat) (o : O) (h0 : n = 0 → l' = l ∧ r' = r ∧ v' = some o) (h1 : n ≠ 0 → n % 2 = 1 → v' = v ∧ r' = r ∧ ∀ k, l'.get k = if k = n / 2 then some o else l.get k)
    (h2 : n ≠ 0 → ¬ n % 2 = 1 → v' = v ∧ l' = l ∧ ∀ k, r'.get k = if k = n / 2 - 1 then some o else r.get k) : (Tr.nd l' v' r').get m = if m = n then some o else (Tr.nd l v r).get m := by
  rw [Tr.get_nd, Tr.get_nd]
  by_cases z : n = 0
  · obtain ⟨rfl, rfl, rfl⟩ := h0 z
    subst z
    by_cases hm : m = 0
    · rw [if_pos hm, if_pos hm]
    · rw [if_neg hm, if_neg hm, if_neg hm]
  · by_cases o1 : n % 2 = 1
    · obtain ⟨rfl, rfl, h⟩ := h1 z o1
      by_cases hm : m = 0
      · rw [if_pos hm, if_neg (by omega), if_pos hm]
      · rw [if_neg hm, if_neg hm]
        by_cases hm1 : m % 2 = 1
        · rw [if_pos hm1, if_pos hm1, h]
          by_cases e : m = n
          · rw [if_pos e, if_pos (by omega)]
          · rw [if_neg e, if_neg (by omega)]
        · rw [if_neg hm1, if_neg hm1, if_neg (by omega)]
    · obtain ⟨rfl, rfl, h⟩ := h2 z o1
      by_cases hm : m = 0
      · rw [if_pos hm, if_neg (by omega), if_pos hm]
      · rw [if_neg hm, if_neg hm]
        by_cases hm1 : m % 2 = 1
        · rw [if_pos hm1, if_pos hm1, if_neg (by omega)]
        · rw [if_neg hm1, if_neg hm1, h]
          by_cases e : m = n
          · rw [if_pos e, if_pos (by omega)]
          · rw [if_neg e, if_neg (by omega)]
theorem Tr.get_setF : ∀ (f : Nat) (t : Tr) (n m : Nat) (o : O), n < f → (Tr.setF f t n o).get m = if m = n then some o else t.get m
  | 0, _, _, _, _, h => absurd h (Nat.not_lt_zero _)
  | f + 1, .lf, n, m, o, h => by
    have e : ∀ k, Tr.lf.get k = (Tr.nd .lf none .lf).get k := fun k => by
      rw [Tr.get_nd, Tr.get_lf, Tr.get_lf, Tr.get_lf, ite_self, ite_self]
    rw [e m]
    unfold Tr.setF
    by_cases z : n = 0
    · rw [if_pos z]
      exact Tr.step _ _ _ _ _ _ n m o (fun _ => ⟨rfl, rfl, rfl⟩) (fun q => absurd z q) fun q => absurd z q
    · rw [if_neg z]
      by_cases o1 : n % 2 = 1
      · rw [if_pos o1]
        exact Tr.step _ _ _ _ _ _ n m o (fun q => absurd q z) (fun _ _ => ⟨rfl, rfl, fun k => Tr.get_setF f .lf (n / 2) k o (by omega)⟩) fun _ q => absurd o1 q
      · rw [if_neg o1]
        exact Tr.step _ _ _ _ _ _ n m o (fun q => absurd q z) (fun _ q => absurd q o1) fun _ _ => ⟨rfl, rfl, fun k => Tr.get_setF f .lf (n / 2 - 1) k o (by omega)⟩
  | f + 1, .nd l v r, n, m, o, h => by
    unfold Tr.setF
    by_cases z : n = 0
    · rw [if_pos z]
      exact Tr.step _ _ _ _ _ _ n m o (fun _ => ⟨rfl, rfl, rfl⟩) (fun q => absurd z q) fun q => absurd z q
    · rw [if_neg z]
      by_cases o1 : n % 2 = 1
      · rw [if_pos o1]
        exact Tr.step _ _ _ _ _ _ n m o (fun q => absurd q z) (fun _ _ => ⟨rfl, rfl, fun k => Tr.get_setF f l (n / 2) k o (by omega)⟩) fun _ q => absurd o1 q
      · rw [if_neg o1]
        exact Tr.step _ _ _ _ _ _ n m o (fun q => absurd q z) (fun _ q => absurd q o1) fun _ _ => ⟨rfl, rfl, fun k => Tr.get_setF f r (n / 2 - 1) k o (by omega)⟩

structure Store where
  t : Tr
  next : Nat
def Store.nil : Store := ⟨.lf, 0⟩
def Store.get (S : Store) (n : Nat) : Option O := S.t.get n
def Store.set (S : Store) (n : Nat) (o : O) : Store := ⟨Tr.setF (n + 1) S.t n o, S.next⟩
def Store.push (S : Store) (o : O) : Store := ⟨Tr.setF (S.next + 1) S.t S.next o, S.next + 1⟩
theorem Store.get_nil (n : Nat) : Store.nil.get n = none := rfl
theorem Store.get_set (S : Store) (n m : Nat) (o : O) : (S.set n o).get m = if m = n then some o else S.get m := Tr.get_setF _ _ _ _ _ (Nat.lt_succ_self _)
theorem Store.get_push (S : Store) (m : Nat) (o : O) : (S.push o).get m = if m = S.next then some o else S.get m := Tr.get_setF _ _ _ _ _ (Nat.lt_succ_self _)
theorem Store.next_set (S : Store) (n : Nat) (o : O) : (S.set n o).next = S.next := rfl
theorem Store.next_push (S : Store) (o : O) : (S.push o).next = S.next + 1 := rfl
theorem Store.next_nil : Store.nil.next = 0 := rfl

/-! ### results -/
/-- an error of the program's own class, its fields -/
structure Ex where
  c : Str
  fs : List (Str × D)
inductive R (β : Type) where
  | ok (b : β) (S : Store)
  | err (x : Ex) (S : Store)
  | bad
def R.bind {β γ : Type} (r : R β) (k : β → Store → R γ) : R γ := match r with
  | .ok b S => k b S
  | .err x S => .err x S
  | .bad => .bad
theorem R.bind_ok {β γ : Type} (b : β) (S : Store) (k : β → Store → R γ) : (R.ok b S).bind k = k b S := rfl
theorem R.bind_bad {β γ : Type} (k : β → Store → R γ) : (R.bad : R β).bind k = R.bad := rfl
theorem R.bind_err {β γ : Type} (x : Ex) (S : Store) (k : β → Store → R γ) : (R.err x S : R β).bind k = R.err x S := rfl

/-! ### what stands for what -/
/-- the written part, where each class stands -/
structure G where
  K : PySem.W.Frag
  cls : Str → Addr
/-- a tuple: tracked, or of the module -/
def TupAt (K : PySem.W.Frag) (H : Hp) (a : Addr) (vs : List V) : Prop :=
  H a = some (.tup vs) ∨ ∃ (o : Obj) (its : Array Value) (n : Nat), K.lookup a = some o ∧ o.cls = .type "tuple" ∧ o.data = .seq its n ∧ its.size ≤ sizeLine ∧ Vals vs its.toList
/-- a list that nobody changes -/
def RlAt (K : PySem.W.Frag) (H : Hp) (a : Addr) (vs : List V) : Prop :=
  (∃ o, H a = some (.frz o (.lst vs))) ∨ ∃ (o : Obj) (its : Array Value) (n : Nat), K.lookup a = some o ∧ o.cls = .type "list" ∧ o.dict = none ∧ o.data = .seq its n ∧ its.size ≤ sizeLine ∧ Vals vs its.toList
theorem TupAt.sq {K : PySem.W.Frag} {H : Hp} {a : Addr} {vs : List V} (h : TupAt K H a vs) : SqT K H a vs := by
  rcases h with h | h
  · exact .inl (.inl h)
  · exact .inr h
theorem RlAt.sq {K : PySem.W.Frag} {H : Hp} {a : Addr} {vs : List V} (h : RlAt K H a vs) : SqL K H a vs := by
  rcases h with h | h
  · exact .inl (.inr h)
  · exact .inr h
mutual
inductive RV (K : PySem.W.Frag) (α : List Addr) (H : Hp) : V → D → Prop
  | non : RV K α H .non .non
  | bl (b : Bool) : RV K α H (.bl b) (.bl b)
  | int (i : Int) : RV K α H (.int i) (.int i)
  | str (s : Str) : RV K α H (.str s) (.str s)
  | ref {a : Addr} {n : Nat} : α[n]? = some a → RV K α H (.ref a) (.ref n)
  | tup {a : Addr} {vs : List V} {ds : List D} : TupAt K H a vs → RVs K α H vs ds → RV K α H (.ref a) (.tup ds)
  | rl {a : Addr} {vs : List V} {ds : List D} : RlAt K H a vs → RVs K α H vs ds → RV K α H (.ref a) (.rl ds)
inductive RVs (K : PySem.W.Frag) (α : List Addr) (H : Hp) : List V → List D → Prop
  | nil : RVs K α H [] []
  | cons {v : V} {vs : List V} {d : D} {ds : List D} : RV K α H v d → RVs K α H vs ds → RVs K α H (v :: vs) (d :: ds)
end
/-- what stays -/
def Ext (H H' : Hp) : Prop := (∀ a vs, H a = some (.tup vs) → H' a = some (.tup vs)) ∧ ∀ a o vs, H a = some (.frz o (.lst vs)) → H' a = some (.frz o (.lst vs))
theorem Ext.refl (H : Hp) : Ext H H := ⟨fun _ _ h => h, fun _ _ _ h => h⟩
theorem Ext.trans {H H1 H2 : Hp} (a : Ext H H1) (b : Ext H1 H2) : Ext H H2 := ⟨fun _ _ h => b.1 _ _ (a.1 _ _ h), fun _ _ _ h => b.2 _ _ _ (a.2 _ _ _ h)⟩
theorem Ext.new {H : Hp} {p : Addr} (h : H p = none) (o : HO) : Ext H (upd H p o) :=
  ⟨fun a vs e => by rw [upd_ne (ne_of_none e h)]; exact e, fun a u vs e => by rw [upd_ne (ne_of_none e h)]; exact e⟩
/-- what may change -/
def Chg : HO → Prop
  | .tup _ => False
  | .frz _ _ => False
  | _ => True
theorem Ext.upd {H : Hp} {p : Addr} {u : HO} (h : H p = some u) (c : Chg u) (o : HO) : Ext H (upd H p o) :=
  ⟨fun a vs e => by rw [upd_ne (by rintro rfl; rw [h] at e; cases e; exact c)]; exact e, fun a q vs e => by rw [upd_ne (by rintro rfl; rw [h] at e; cases e; exact c)]; exact e⟩
theorem TupAt.mono {K : PySem.W.Frag} {H H' : Hp} {a : Addr} {vs : List V} (h : TupAt K H a vs) (e : Ext H H') : TupAt K H' a vs := by
  rcases h with h | h
  · exact .inl (e.1 _ _ h)
  · exact .inr h
theorem RlAt.mono {K : PySem.W.Frag} {H H' : Hp} {a : Addr} {vs : List V} (h : RlAt K H a vs) (e : Ext H H') : RlAt K H' a vs := by
  rcases h with ⟨o, h⟩ | h
  · exact .inl ⟨o, e.2 _ _ _ h⟩
  · exact .inr h
theorem pre_get {α α' : List Addr} (p : α <+: α') {n : Nat} {a : Addr} (h : α[n]? = some a) : α'[n]? = some a := by
  obtain ⟨l, rfl⟩ := p
  obtain ⟨hn, _⟩ := List.getElem?_eq_some_iff.mp h
  rw [List.getElem?_append_left hn]
  exact h
section
variable {K : PySem.W.Frag} {α α' : List Addr} {H H' : Hp}
mutual
theorem RV.mono (e : Ext H H') (p : α <+: α') : ∀ {v : V} {d : D}, RV K α H v d → RV K α' H' v d
  | _, _, .non => .non
  | _, _, .bl b => .bl b
  | _, _, .int i => .int i
  | _, _, .str s => .str s
  | _, _, .ref h => .ref (pre_get p h)
  | _, _, .tup h hs => .tup (h.mono e) (RVs.mono e p hs)
  | _, _, .rl h hs => .rl (h.mono e) (RVs.mono e p hs)
theorem RVs.mono (e : Ext H H') (p : α <+: α') : ∀ {vs : List V} {ds : List D}, RVs K α H vs ds → RVs K α' H' vs ds
  | _, _, .nil => .nil
  | _, _, .cons h hs => .cons (RV.mono e p h) (RVs.mono e p hs)
end
theorem RVs.length : ∀ {vs : List V} {ds : List D}, RVs K α H vs ds → vs.length = ds.length
  | _, _, .nil => rfl
  | _, _, .cons _ h => congrArg Nat.succ h.length
theorem RVs.get : ∀ {vs : List V} {ds : List D} {i : Nat} {d : D}, RVs K α H vs ds → ds[i]? = some d → ∃ v, vs[i]? = some v ∧ RV K α H v d
  | _, _, _, _, .nil, e => by simp at e
  | _, _, 0, _, .cons h _, e => by simp at e; subst e; exact ⟨_, rfl, h⟩
  | _, _, i + 1, d, .cons _ t, e => by
    obtain ⟨v, h1, h2⟩ := RVs.get (i := i) (d := d) t (by simpa using e)
    exact ⟨v, by simpa using h1, h2⟩
theorem RVs.getV : ∀ {vs : List V} {ds : List D} {i : Nat} {v : V}, RVs K α H vs ds → vs[i]? = some v → ∃ d, ds[i]? = some d ∧ RV K α H v d
  | _, _, _, _, .nil, e => by simp at e
  | _, _, 0, _, .cons h _, e => by simp at e; subst e; exact ⟨_, rfl, h⟩
  | _, _, i + 1, d, .cons _ t, e => by
    obtain ⟨v, h1, h2⟩ := RVs.getV (i := i) (v := d) t (by simpa using e)
    exact ⟨v, by simpa using h1, h2⟩
theorem RVs.append : ∀ {vs ws : List V} {ds es : List D}, RVs K α H vs ds → RVs K α H ws es → RVs K α H (vs ++ ws) (ds ++ es)
  | _, _, _, _, .nil, s => s
  | _, _, _, _, .cons r t, s => .cons r (RVs.append t s)
theorem RVs.take : ∀ (n : Nat) {vs : List V} {ds : List D}, RVs K α H vs ds → RVs K α H (vs.take n) (ds.take n)
  | 0, _, _, _ => .nil
  | _ + 1, _, _, .nil => .nil
  | n + 1, _, _, .cons r t => .cons r (RVs.take n t)
theorem RVs.drop : ∀ (n : Nat) {vs : List V} {ds : List D}, RVs K α H vs ds → RVs K α H (vs.drop n) (ds.drop n)
  | 0, _, _, r => r
  | _ + 1, _, _, .nil => .nil
  | n + 1, _, _, .cons _ t => RVs.drop n t
theorem RVs.set {v : V} {d : D} (r : RV K α H v d) : ∀ {vs : List V} {ds : List D} (i : Nat), RVs K α H vs ds → RVs K α H (vs.set i v) (ds.set i d)
  | _, _, _, .nil => .nil
  | _, _, 0, .cons _ t => .cons r t
  | _, _, i + 1, .cons q t => .cons q (RVs.set r i t)
theorem RVs.map_int : ∀ (ns : List Int), RVs K α H (ns.map V.int) (ns.map D.int)
  | [] => .nil
  | n :: ns => .cons (.int n) (RVs.map_int ns)
theorem RVs.dropLast {vs : List V} {ds : List D} (r : RVs K α H vs ds) : RVs K α H vs.dropLast ds.dropLast := by
  rw [List.dropLast_eq_take, List.dropLast_eq_take, r.length]
  exact r.take _
end
/-- fields, a dict's entries: the same names, in the same sequence -/
inductive RFs (κ : Type) (K : PySem.W.Frag) (α : List Addr) (H : Hp) : List (κ × V) → List (κ × D) → Prop
  | nil : RFs κ K α H [] []
  | cons {f : κ} {v : V} {d : D} {vs : List (κ × V)} {ds : List (κ × D)} : RV K α H v d → RFs κ K α H vs ds → RFs κ K α H ((f, v) :: vs) ((f, d) :: ds)
section
variable {κ : Type} {K : PySem.W.Frag} {α α' : List Addr} {H H' : Hp}
theorem RFs.mono (e : Ext H H') (p : α <+: α') : ∀ {vs : List (κ × V)} {ds : List (κ × D)}, RFs κ K α H vs ds → RFs κ K α' H' vs ds
  | _, _, .nil => .nil
  | _, _, .cons h hs => .cons (h.mono e p) (RFs.mono e p hs)
theorem RFs.length : ∀ {vs : List (κ × V)} {ds : List (κ × D)}, RFs κ K α H vs ds → vs.length = ds.length
  | _, _, .nil => rfl
  | _, _, .cons _ h => congrArg Nat.succ h.length
end
/-- what stands at an address for what the store holds -/
def RO (Γ : G) (α : List Addr) (H : Hp) (a : Addr) : O → Prop
  | .lst ds => ∃ vs, H a = some (.lst vs) ∧ RVs Γ.K α H vs ds
  | .dct kvs => ∃ vks, H a = some (.dK vks) ∧ RFs Key Γ.K α H vks kvs
  | .ins c fs => ∃ dx vfs, H a = some (.ins (Γ.cls c) dx vfs) ∧ RFs Str Γ.K α H vfs fs
theorem RO.chg {Γ : G} {α : List Addr} {H : Hp} {a : Addr} {o : O} (h : RO Γ α H a o) : ∃ u, H a = some u ∧ Chg u := by
  cases o with
  | lst ds => obtain ⟨vs, e, _⟩ := h; exact ⟨_, e, trivial⟩
  | dct kvs => obtain ⟨vs, e, _⟩ := h; exact ⟨_, e, trivial⟩
  | ins c fs => obtain ⟨dx, vs, e, _⟩ := h; exact ⟨_, e, trivial⟩
theorem RO.mono {Γ : G} {α α' : List Addr} {H H' : Hp} {a : Addr} {o : O} (h : RO Γ α H a o) (q : H' a = H a) (e : Ext H H') (p : α <+: α') : RO Γ α' H' a o := by
  cases o with
  | lst ds => obtain ⟨vs, e1, r⟩ := h; exact ⟨vs, q.trans e1, r.mono e p⟩
  | dct kvs => obtain ⟨vs, e1, r⟩ := h; exact ⟨vs, q.trans e1, r.mono e p⟩
  | ins c fs => obtain ⟨dx, vs, e1, r⟩ := h; exact ⟨dx, vs, q.trans e1, r.mono e p⟩
/-- the heap holds the store: the n-th thing at α's n-th address -/
structure Rep (Γ : G) (F : List (Addr × HO)) (α : List Addr) (S : Store) (H : Hp) : Prop where
  len : α.length = S.next
  pin : ∀ p ∈ F, H p.1 = some p.2 ∧ p.1 ∉ α
  nd : α.Nodup
  nn : ∀ a ∈ α, ∃ u, H a = some u ∧ Chg u
  ob : ∀ n o, S.get n = some o → ∃ a, α[n]? = some a ∧ RO Γ α H a o
section
variable {Γ : G} {F : List (Addr × HO)} {α : List Addr} {S : Store} {H : Hp}
theorem Rep.at (r : Rep Γ F α S H) {n : Nat} {a : Addr} {o : O} (h : S.get n = some o) (ha : α[n]? = some a) : RO Γ α H a o := by
  obtain ⟨b, hb, q⟩ := r.ob n o h
  rw [ha] at hb
  cases hb
  exact q
theorem Rep.notin (r : Rep Γ F α S H) {p : Addr} (h : H p = none) : p ∉ α := fun hm => by
  obtain ⟨u, e, _⟩ := r.nn p hm
  rw [h] at e
  cases e
/-- a thing beside, new -/
theorem Rep.beside (r : Rep Γ F α S H) {p : Addr} (h : H p = none) (o : HO) : Rep Γ F α S (upd H p o) where
  len := r.len
  pin := fun q hq => ⟨by rw [upd_ne (ne_of_none (r.pin q hq).1 h)]; exact (r.pin q hq).1, (r.pin q hq).2⟩
  nd := r.nd
  nn := fun a ha => by
    have ne : a ≠ p := fun e => r.notin h (e ▸ ha)
    rw [upd_ne ne]
    exact r.nn a ha
  ob := fun n q hq => by
    obtain ⟨a, ha, ro⟩ := r.ob n q hq
    exact ⟨a, ha, ro.mono (upd_ne fun e => r.notin h (e ▸ List.mem_of_getElem? ha)) (Ext.new h o) (List.prefix_refl _)⟩
/-- a thing beside that isn't the store's changes -/
theorem Rep.besideU (r : Rep Γ F α S H) {p : Addr} {u : HO} (hp : p ∉ α) (hF : ∀ q ∈ F, q.1 ≠ p) (h : H p = some u) (c : Chg u) (o : HO) : Rep Γ F α S (upd H p o) where
  len := r.len
  pin := fun q hq => ⟨by rw [upd_ne (hF q hq)]; exact (r.pin q hq).1, (r.pin q hq).2⟩
  nd := r.nd
  nn := fun a ha => by
    have ne : a ≠ p := fun e => hp (e ▸ ha)
    rw [upd_ne ne]
    exact r.nn a ha
  ob := fun n q hq => by
    obtain ⟨a, ha, ro⟩ := r.ob n q hq
    exact ⟨a, ha, ro.mono (upd_ne fun e => hp (e ▸ List.mem_of_getElem? ha)) (Ext.upd h c o) (List.prefix_refl _)⟩
/-- a new thing goes into the store: it stands at p already, beside -/
theorem Rep.push (r : Rep Γ F α S H) {p : Addr} {o : O} (hp : p ∉ α) (hF : ∀ q ∈ F, q.1 ≠ p) (ro : RO Γ (α ++ [p]) H p o) : Rep Γ F (α ++ [p]) (S.push o) H where
  pin := fun q hq => ⟨(r.pin q hq).1, fun hm => (List.mem_append.mp hm).elim (r.pin q hq).2 fun z => hF q hq (by simpa using z)⟩
  len := by rw [List.length_append, r.len, Store.next_push]; rfl
  nd := List.nodup_append.mpr ⟨r.nd, by simp, fun a ha b hb e => hp (by simp at hb; exact hb ▸ e ▸ ha)⟩
  nn := fun a ha => by
    rcases List.mem_append.mp ha with ha | ha
    · exact r.nn a ha
    · simp at ha
      subst ha
      exact ro.chg
  ob := fun n q hq => by
    rw [Store.get_push] at hq
    by_cases e : n = S.next
    · rw [if_pos e] at hq
      cases hq
      subst e
      exact ⟨p, by rw [← r.len]; simp, ro⟩
    · rw [if_neg e] at hq
      obtain ⟨a, ha, ro'⟩ := r.ob n q hq
      exact ⟨a, pre_get (List.prefix_append _ _) ha, ro'.mono rfl (Ext.refl _) (List.prefix_append _ _)⟩
theorem nd_ix' {α : Type} {l : List α} (hN : l.Nodup) {i j : Nat} {x : α} (a : l[i]? = some x) (b : l[j]? = some x) : i = j := by
  obtain ⟨h1, e1⟩ := List.getElem?_eq_some_iff.mp a
  obtain ⟨h2, e2⟩ := List.getElem?_eq_some_iff.mp b
  exact (List.getElem_inj hN).mp (e1.trans e2.symm)
/-- a thing of the store changes -/
theorem Rep.set (r : Rep Γ F α S H) {n : Nat} {a : Addr} {u o' : HO} {o : O} (ha : α[n]? = some a) (h : H a = some u) (ro : RO Γ α (upd H a o') a o) : Rep Γ F α (S.set n o) (upd H a o') := by
  have hc : Chg u := by
    obtain ⟨u', e, c⟩ := r.nn a (List.mem_of_getElem? ha)
    rw [h] at e
    cases e
    exact c
  refine ⟨r.len, fun q hq => ⟨by
    have ne : q.1 ≠ a := fun e => (r.pin q hq).2 (e ▸ List.mem_of_getElem? ha)
    rw [upd_ne ne]
    exact (r.pin q hq).1, (r.pin q hq).2⟩, r.nd, fun b hb => ?_, fun m q hq => ?_⟩
  · by_cases e : b = a
    · subst e
      exact ro.chg
    · rw [upd_ne e]
      exact r.nn b hb
  · rw [Store.get_set] at hq
    by_cases e : m = n
    · rw [if_pos e] at hq
      cases hq
      exact ⟨a, e ▸ ha, ro⟩
    · rw [if_neg e] at hq
      obtain ⟨b, hb, ro'⟩ := r.ob m q hq
      exact ⟨b, hb, ro'.mono (upd_ne fun z => e (nd_ix' r.nd hb (z ▸ ha))) (Ext.upd h hc o') (List.prefix_refl _)⟩
end

/-! ### the frame's names -/
abbrev Env := List (Option D)
def RE (K : PySem.W.Frag) (α : List Addr) (H : Hp) (σ : St) (ρ : Env) : Prop := σ.length = ρ.length ∧ ∀ (i : Nat) (d : D), ρ[i]? = some (some d) → ∃ v, σ[i]? = some (some v) ∧ RV K α H v d
theorem RE.mono {K : PySem.W.Frag} {α α' : List Addr} {H H' : Hp} {σ : St} {ρ : Env} (r : RE K α H σ ρ) (e : Ext H H') (p : α <+: α') : RE K α' H' σ ρ :=
  ⟨r.1, fun i d h => let ⟨v, h1, h2⟩ := r.2 i d h; ⟨v, h1, h2.mono e p⟩⟩
theorem RE.set {K : PySem.W.Frag} {α : List Addr} {H : Hp} {σ : St} {ρ : Env} (r : RE K α H σ ρ) {v : V} {d : D} (q : RV K α H v d) (i : Nat) : RE K α H (σ.set i (some v)) (ρ.set i (some d)) := by
  refine ⟨by rw [List.length_set, List.length_set]; exact r.1, fun j e h => ?_⟩
  by_cases c : i = j
  · subst c
    rw [List.getElem?_set] at h ⊢
    simp only [if_true] at h ⊢
    by_cases l : i < ρ.length
    · rw [if_pos l] at h
      rw [if_pos (by rw [r.1]; exact l)]
      cases h
      exact ⟨v, rfl, q⟩
    · rw [if_neg l] at h
      cases h
  · rw [List.getElem?_set_ne c] at h ⊢
    exact r.2 j e h
theorem RE.unset {K : PySem.W.Frag} {α : List Addr} {H : Hp} {σ : St} {ρ : Env} (r : RE K α H σ ρ) (i : Nat) : RE K α H (σ.set i none) (ρ.set i none) := by
  refine ⟨by rw [List.length_set, List.length_set]; exact r.1, fun j e h => ?_⟩
  by_cases c : i = j
  · subst c
    rw [List.getElem?_set] at h
    simp only [if_true] at h
    by_cases l : i < ρ.length
    · rw [if_pos l] at h
      cases h
    · rw [if_neg l] at h
      cases h
  · rw [List.getElem?_set_ne c] at h ⊢
    exact r.2 j e h
/-- a comprehension's own names forgotten -/
def wipeE (ρ : Env) : List Nat → Env
  | [] => ρ
  | v :: vs => (wipeE ρ vs).set v none
theorem RE.wipe {K : PySem.W.Frag} {α : List Addr} {H : Hp} {σ : St} {ρ : Env} (r : RE K α H σ ρ) : ∀ vs : List Nat, RE K α H (L2.wipe σ vs) (wipeE ρ vs)
  | [] => r
  | v :: vs => by
    unfold L2.wipe wipeE
    exact (RE.wipe r vs).unset v
/-- one thing more is held fast; less -/
theorem Rep.hold {Γ : G} {F : List (Addr × HO)} {α : List Addr} {S : Store} {H : Hp} (r : Rep Γ F α S H) {p : Addr} {u : HO} (h : H p = some u) (hp : p ∉ α) : Rep Γ ((p, u) :: F) α S H :=
  ⟨r.len, fun q hq => (List.mem_cons.mp hq).elim (fun e => by subst e; exact ⟨h, hp⟩) (r.pin q), r.nd, r.nn, r.ob⟩
theorem Rep.loose {Γ : G} {F F' : List (Addr × HO)} {α : List Addr} {S : Store} {H : Hp} (r : Rep Γ F α S H) (h : ∀ q ∈ F', q ∈ F) : Rep Γ F' α S H := ⟨r.len, fun q hq => r.pin q (h q hq), r.nd, r.nn, r.ob⟩
end MM

/-! The mirror layer, part B: what is told of a piece of code by a Lean function; the rules that hang on no built-in. -/
namespace MM
open PySem L2

/-! ### readings may be strengthened -/
section
variable {X : Cx}
theorem peI {e : Expr} {t t' : TE} (h : PE X e t) (i : ∀ σ H Q, t' σ H Q → t σ H Q) : PE X e t' := ⟨fun pins s σ H Q I q => h.run pins s σ H Q I (i σ H Q q)⟩
theorem ptI {e : Expr} {t t' : TT} (h : PT X e t) (i : ∀ σ H Q, t' σ H Q → t σ H Q) : PT X e t' := ⟨fun pins s σ H Q I q => h.run pins s σ H Q I (i σ H Q q)⟩
theorem pwI {e : Expr} {t t' : TT} (h : PW X e t) (i : ∀ σ H Q, t' σ H Q → t σ H Q) : PW X e t' := ⟨fun whole pins s σ H Q I q => h.run whole pins s σ H Q I (i σ H Q q)⟩
theorem paI {es : List Expr} {t t' : TA} (h : PA X es t) (i : ∀ σ H Q, t' σ H Q → t σ H Q) : PA X es t' := ⟨fun pos pins s σ H Q I q => h.run pos pins s σ H Q I (i σ H Q q)⟩
theorem psI {st : Stmt} {t t' : TS} (h : PS X st t) (i : ∀ C σ H, t' C σ H → t C σ H) : PS X st t' := ⟨fun pins s σ H C I q => h.run pins s σ H C I (i C σ H q)⟩
theorem pssI {st : List Stmt} {t t' : TS} (h : PSs X st t) (i : ∀ C σ H, t' C σ H → t C σ H) : PSs X st t' := ⟨fun pins s σ H C I q => h.run pins s σ H C I (i C σ H q)⟩
theorem piI {tg it : Expr} {t t' : TI} (h : PI X tg it t) (i : ∀ σ H R, t' σ H R → t σ H R) : PI X tg it t' := ⟨fun pins s σ H R I q => h.run pins s σ H R I (i σ H R q)⟩
theorem poI {e : Option Expr} {t t' : TO} (h : PO X e t) (i : ∀ σ H Q, t' σ H Q → t σ H Q) : PO X e t' := ⟨fun pins s σ H Q I q => h.run pins s σ H Q I (i σ H Q q)⟩
theorem pgI {g : Expr} {t t' : TG} (h : PG X g t) (i : ∀ v σ H Q, t' v σ H Q → t v σ H Q) : PG X g t' := ⟨fun pins s σ H v u Q I r q => h.run pins s σ H v u Q I r (i v σ H Q q)⟩
theorem pgsI {g : List Expr} {t t' : TGs} (h : PGs X g t) (i : ∀ v σ H Q, t' v σ H Q → t v σ H Q) : PGs X g t' := by
  refine ⟨fun pins s σ H v u Q I r q => ?_⟩
  exact h.run pins s σ H v u Q I r (i v σ H Q q)
end

/-! ### what is told -/
/-- a result holds behind the heap H -/
def post (Γ : G) (F : List (Addr × HO)) (α : List Addr) (H : Hp) {β : Type} (r : R β) (C : List Addr → Store → Hp → β → Prop) (E : XK) : Prop := match r with
  | .ok b S => ∀ α' H', Ext H H' → α <+: α' → Rep Γ F α' S H' → C α' S H' b
  | .err x S => ∀ α' H' dd vfs, Ext H H' → α <+: α' → Rep Γ F α' S H' → H' dd = some (.xd vfs) → RFs Str Γ.K α' H' vfs x.fs → E (.ref (Γ.cls x.c)) (some dd) H'
  | .bad => False
abbrev ME := Env → Store → R D
abbrev MT := Env → Store → R Bool
abbrev MAs := Env → Store → R (List D)
inductive Fl where
  | nx (ρ : Env) | rt (d : D) | bk (ρ : Env) | ct (ρ : Env)
abbrev MS := Env → Store → R Fl
abbrev MG := D → Env → Store → R Env
abbrev MGs := List D → Env → Store → R Env
/-- the place in the world -/
structure At (Γ : G) (F : List (Addr × HO)) (σ : St) (H : Hp) (α : List Addr) (ρ : Env) (S : Store) : Prop where
  rep : Rep Γ F α S H
  re : RE Γ.K α H σ ρ
abbrev CV (Γ : G) (Q : VK) : List Addr → Store → Hp → D → Prop := fun α _ H d => ∀ v, RV Γ.K α H v d → Q v H
abbrev CT (Q : Bool → Hp → Prop) : List Addr → Store → Hp → Bool → Prop := fun _ _ H b => Q b H
abbrev CA (Γ : G) (Q : List V → Hp → Prop) : List Addr → Store → Hp → List D → Prop := fun α _ H ds => ∀ vs, RVs Γ.K α H vs ds → Q vs H
abbrev CL (Γ : G) (F : List (Addr × HO)) (Q : VK) : List Addr → Store → Hp → List D → Prop := fun α _ H ds => ∀ p vs, H p = some (.lst vs) → p ∉ α → (∀ q ∈ F, q.1 ≠ p) → RVs Γ.K α H vs ds → Q (.ref p) H
abbrev CG (Γ : G) (Q : St → Hp → Prop) : List Addr → Store → Hp → Env → Prop := fun α _ H ρ => ∀ σ, RE Γ.K α H σ ρ → Q σ H
def CS (Γ : G) (C : Ends) : List Addr → Store → Hp → Fl → Prop := fun α _ H f => match f with
  | .nx ρ => ∀ σ, RE Γ.K α H σ ρ → C.nx σ H
  | .rt d => ∀ v, RV Γ.K α H v d → C.rt v H
  | .bk ρ => ∀ σ, RE Γ.K α H σ ρ → C.bk σ H
  | .ct ρ => ∀ σ, RE Γ.K α H σ ρ → C.ct σ H
def tM (Γ : G) (E : XK) (m : ME) : TE := fun σ H Q => ∃ F α ρ S, At Γ F σ H α ρ S ∧ post Γ F α H (m ρ S) (CV Γ Q) E
def tMT (Γ : G) (E : XK) (m : MT) : TT := fun σ H Q => ∃ F α ρ S, At Γ F σ H α ρ S ∧ post Γ F α H (m ρ S) (CT Q) E
def tMA (Γ : G) (E : XK) (m : MAs) : TA := fun σ H Q => ∃ F α ρ S, At Γ F σ H α ρ S ∧ post Γ F α H (m ρ S) (CA Γ Q) E
/-- a list that is new -/
def tML (Γ : G) (E : XK) (m : MAs) : TE := fun σ H Q => ∃ F α ρ S, At Γ F σ H α ρ S ∧ post Γ F α H (m ρ S) (CL Γ F Q) E
def tMG (Γ : G) (E : XK) (m : MG) : TG := fun v σ H Q => ∃ F α ρ S d, At Γ F σ H α ρ S ∧ RV Γ.K α H v d ∧ post Γ F α H (m d ρ S) (CG Γ Q) E
def tMGs (Γ : G) (E : XK) (m : MGs) : TGs := fun vs σ H Q => ∃ F α ρ S ds, At Γ F σ H α ρ S ∧ RVs Γ.K α H vs ds ∧ post Γ F α H (m ds ρ S) (CG Γ Q) E
def tMS (Γ : G) (E : XK) (m : MS) : TS := fun C σ H => ∃ F α ρ S, At Γ F σ H α ρ S ∧ post Γ F α H (m ρ S) (CS Γ C) E
section
variable {Γ : G} {F : List (Addr × HO)} {α α' : List Addr} {H H' : Hp} {β γ : Type} {E : XK}
theorem post_mono {r : R β} {C C' : List Addr → Store → Hp → β → Prop} (h : post Γ F α H r C E) (i : ∀ α' S' H' b, Ext H H' → α <+: α' → Rep Γ F α' S' H' → C α' S' H' b → C' α' S' H' b) : post Γ F α H r C' E := by
  cases r with
  | ok b S => exact fun α' H' e p rp => i α' S H' b e p rp (h α' H' e p rp)
  | err x S => exact h
  | bad => exact h
theorem post_later {r : R β} {C : List Addr → Store → Hp → β → Prop} (h : post Γ F α H r C E) (e : Ext H H') (p : α <+: α') : post Γ F α' H' r C E := by
  cases r with
  | ok b S => exact fun α2 H2 e2 p2 rp => h α2 H2 (e.trans e2) (p.trans p2) rp
  | err x S => exact fun α2 H2 dd vfs e2 p2 rp => h α2 H2 dd vfs (e.trans e2) (p.trans p2) rp
  | bad => exact h
theorem post_bind {r : R β} {k : β → Store → R γ} {C : List Addr → Store → Hp → γ → Prop} (h : post Γ F α H (r.bind k) C E) : post Γ F α H r (fun α' S' H' b => post Γ F α' H' (k b S') C E) E := by
  cases r with
  | ok b S => exact fun α' H' e p rp => post_later h e p
  | err x S => exact h
  | bad => exact h
theorem post_ok {b : β} {S : Store} {C : List Addr → Store → Hp → β → Prop} (h : post Γ F α H (.ok b S) C E) (rp : Rep Γ F α S H) : C α S H b := h α H (Ext.refl _) (List.prefix_refl _) rp
theorem At.later {σ : St} {ρ : Env} {S S' : Store} (a : At Γ F σ H α ρ S) (e : Ext H H') (p : α <+: α') (r : Rep Γ F α' S' H') : At Γ F σ H' α' ρ S' := ⟨r, a.re.mono e p⟩
theorem post_held {F' : List (Addr × HO)} {r : R β} {C : List Addr → Store → Hp → β → Prop} (h : post Γ F α H r C E) (i : ∀ q ∈ F, q ∈ F') : post Γ F' α H r C E := by
  cases r with
  | ok b S => exact fun α2 H2 e2 p2 rp => h α2 H2 e2 p2 (rp.loose i)
  | err x S => exact fun α2 H2 dd vfs e2 p2 rp => h α2 H2 dd vfs e2 p2 (rp.loose i)
  | bad => exact h
/-- a way that can't be left by an error -/
def R.calm (r : R β) : R β := match r with
  | .err _ _ => .bad
  | r => r
theorem post_calm {r : R β} {C : List Addr → Store → Hp → β → Prop} {E' : XK} (h : post Γ F α H r.calm C E) : post Γ F α H r C E' := by
  cases r with
  | ok b S => exact h
  | err x S => exact False.elim h
  | bad => exact h
end

/-! ### expressions -/
def mVar (i : Nat) : ME := fun ρ S => match ρ[i]? with
  | some (some d) => .ok d S
  | _ => .bad
def mC (d : D) : ME := fun _ S => .ok d S
section
variable {X : Cx} {cls : Str → Addr} {E : XK} {x : Str} {e a b c : Expr} {es : List Expr} {pos : Pos}
theorem me_var (i : Nat) (hN : X.N[i]? = some x := by rfl) (hv : Vis X.env.scope x := by first | exact Or.inl rfl | exact Or.inr (Or.inl rfl) | exact Or.inr (Or.inr rfl)) (hd : (x == ("__debug__" : Str)) = false := by decide)
    (hcd : (x == ("__classdict__" : Str)) = false := by decide) : PE X (.Name x pos) (tM (G.mk X.K cls) E (mVar i)) := by
  refine peI (pe_var hN hv hd hcd) fun σ H Q ⟨F, α, ρ, S, at_, p⟩ => ?_
  unfold mVar at p
  split at p
  · rename_i d hd
    obtain ⟨v, hv, rv⟩ := at_.re.2 i d hd
    exact ⟨v, hv, post_ok p at_.rep v rv⟩
  · exact False.elim p
theorem me_const {v : V} {d : D} (h : PE X e (tC v)) (r : ∀ α H, RV X.K α H v d) : PE X e (tM (G.mk X.K cls) E (mC d)) :=
  peI h fun σ H Q ⟨F, α, ρ, S, at_, p⟩ => post_ok p at_.rep v (r α H)
theorem me_int {i : Int} {j : Nat} : PE X (.Constant (.int i) j pos) (tM (G.mk X.K cls) E (mC (.int i))) := me_const pe_int fun _ _ => .int i
theorem me_bl {i : Bool} {j : Nat} : PE X (.Constant (.bool i) j pos) (tM (G.mk X.K cls) E (mC (.bl i))) := me_const pe_bl fun _ _ => .bl i
theorem me_non {j : Nat} : PE X (.Constant .none j pos) (tM (G.mk X.K cls) E (mC .non)) := me_const pe_non fun _ _ => .non
theorem me_str {i : Str} {j : Nat} : PE X (.Constant (.str i) j pos) (tM (G.mk X.K cls) E (mC (.str i))) := me_const pe_str fun _ _ => .str i
/-- a module's constant -/
theorem me_glob {v : V} {d : D} {u : Value} (hg : Gl X x) (hm : X.mg x = some u) (r : RelV v u) (rd : ∀ α H, RV X.K α H v d) (hd : (x == ("__debug__" : Str)) = false := by decide) : PE X (.Name x pos) (tM (G.mk X.K cls) E (mC d)) := me_const (pe_glob hg hm r hd) rd

/-! ### operators -/
/-- an operator's reading is told by g -/
def OpM (X : Cx) (cls : Str → Addr) (E : XK) (r : R2) (g : D → D → Store → R D) : Prop :=
  ∀ F α S H x y d e Q, Rep ⟨X.K, cls⟩ F α S H → RV X.K α H x d → RV X.K α H y e → post ⟨X.K, cls⟩ F α H (g d e S) (CV ⟨X.K, cls⟩ Q) E → r x y H Q
def UnM (X : Cx) (cls : Str → Addr) (E : XK) (r : V → Hp → VK → Prop) (g : D → Store → R D) : Prop :=
  ∀ F α S H x d Q, Rep ⟨X.K, cls⟩ F α S H → RV X.K α H x d → post ⟨X.K, cls⟩ F α H (g d S) (CV ⟨X.K, cls⟩ Q) E → r x H Q
def mOp (g : D → D → Store → R D) (ma mb : ME) : ME := fun ρ S => (ma ρ S).bind fun d S1 => (mb ρ S1).bind fun e S2 => g d e S2
def mUn (g : D → Store → R D) (ma : ME) : ME := fun ρ S => (ma ρ S).bind fun d S1 => g d S1
theorem op_reads {r : R2} {g : D → D → Store → R D} {ma mb : ME} (hr : OpM X cls E r g) : ∀ σ H Q, tM (G.mk X.K cls) E (mOp g ma mb) σ H Q → tOp r (tM (G.mk X.K cls) E ma) (tM (G.mk X.K cls) E mb) σ H Q := by
  rintro σ H Q ⟨F, α, ρ, S, at_, p⟩
  refine ⟨F, α, ρ, S, at_, post_mono (post_bind p) fun α1 S1 H1 d e1 p1 r1 q v rv => ?_⟩
  refine ⟨F, α1, ρ, S1, at_.later e1 p1 r1, post_mono (post_bind q) fun α2 S2 H2 d' e2 p2 r2 q2 v' rv' => ?_⟩
  exact hr F α2 S2 H2 v v' d d' Q r2 (rv.mono e2 p2) rv' q2
theorem un_reads {r : V → Hp → VK → Prop} {g : D → Store → R D} {ma : ME} (hr : UnM X cls E r g) : ∀ σ H Q, tM (G.mk X.K cls) E (mUn g ma) σ H Q → tUn r (tM (G.mk X.K cls) E ma) σ H Q := by
  rintro σ H Q ⟨F, α, ρ, S, at_, p⟩
  refine ⟨F, α, ρ, S, at_, post_mono (post_bind p) fun α1 S1 H1 d e1 p1 r1 q v rv => ?_⟩
  exact hr F α1 S1 H1 v d Q r1 rv q
theorem me_op {op : Operator} {r : R2} {g : D → D → Store → R D} {ma mb : ME} (ho : OpR X (binaryOp op) r) (hr : OpM X cls E r g) (ha : PE X a (tM (G.mk X.K cls) E ma)) (hb : PE X b (tM (G.mk X.K cls) E mb)) : PE X (.BinOp a op b pos) (tM (G.mk X.K cls) E (mOp g ma mb)) :=
  peI (pe_op ho ha hb) (op_reads hr)
theorem me_un {op : UnaryOp} {r : V → Hp → VK → Prop} {g : D → Store → R D} {ma : ME} (ho : UnR X (unaryOp op) r) (hr : UnM X cls E r g) (ha : PE X a (tM (G.mk X.K cls) E ma)) : PE X (.UnaryOp op a pos) (tM (G.mk X.K cls) E (mUn g ma)) :=
  peI (pe_un ho ha) (un_reads hr)
theorem me_cmp {op : CmpOp} {r : R2} {g : D → D → Store → R D} {ma mb : ME} (ho : OpR X (compareOp op) r) (hr : OpM X cls E r g) (ha : PE X a (tM (G.mk X.K cls) E ma)) (hb : PE X b (tM (G.mk X.K cls) E mb)) (hm : behindInMarks op b = false) : PE X (.Compare a [op] [b] pos) (tM (G.mk X.K cls) E (mOp g ma mb)) :=
  peI (pe_cmpR ho ha hb hm) (op_reads hr)
theorem me_ix {r : R2} {g : D → D → Store → R D} {ma mb : ME} (ho : IxR X r) (hr : OpM X cls E r g) (ha : PE X a (tM (G.mk X.K cls) E ma)) (hb : PE X b (tM (G.mk X.K cls) E mb)) (hs : PlainIx b) : PE X (.Subscript a b pos) (tM (G.mk X.K cls) E (mOp g ma mb)) :=
  peI (pe_ix ho ha hb hs) (op_reads hr)

/-! ### tests -/
/-- a value that is True or False -/
def asB : D → Store → R Bool
  | .bl b, S => .ok b S
  | _, _ => .bad
def mB (m : ME) : MT := fun ρ S => (m ρ S).bind asB
def mAndT (m n : MT) : MT := fun ρ S => (m ρ S).bind fun b S1 => if b = true then n ρ S1 else .ok false S1
def mOrT (m n : MT) : MT := fun ρ S => (m ρ S).bind fun b S1 => if b = true then .ok true S1 else n ρ S1
def mNotT (m : MT) : MT := fun ρ S => (m ρ S).bind fun b S1 => .ok (!b) S1
def mAnd (m n : ME) : ME := fun ρ S => (m ρ S).bind fun d S0 => (asB d S0).bind fun b S1 => if b = true then n ρ S1 else .ok (.bl false) S1
def mOr (m n : ME) : ME := fun ρ S => (m ρ S).bind fun d S0 => (asB d S0).bind fun b S1 => if b = true then .ok (.bl true) S1 else n ρ S1
def mNot (m : ME) : ME := fun ρ S => (m ρ S).bind fun d S0 => (asB d S0).bind fun b S1 => .ok (.bl (!b)) S1
def mIf (t : MT) (m n : ME) : ME := fun ρ S => (t ρ S).bind fun b S1 => if b = true then m ρ S1 else n ρ S1
theorem post_asB {F : List (Addr × HO)} {α : List Addr} {H : Hp} {γ : Type} {d : D} {v : V} {S : Store} {k : Bool → Store → R γ} {C : List Addr → Store → Hp → γ → Prop} (rv : RV X.K α H v d) (p : post (G.mk X.K cls) F α H ((asB d S).bind k) C E) : ∃ c, v = .bl c ∧ post (G.mk X.K cls) F α H (k c S) C E := by
  cases rv with
  | bl b => exact ⟨b, rfl, p⟩
  | non => exact False.elim p
  | int _ => exact False.elim p
  | str _ => exact False.elim p
  | ref _ => exact False.elim p
  | tup _ _ => exact False.elim p
  | rl _ _ => exact False.elim p
theorem b_reads {m : ME} : ∀ σ H Q, tMT (G.mk X.K cls) E (mB m) σ H Q → tB (tM (G.mk X.K cls) E m) σ H Q := by
  rintro σ H Q ⟨F, α, ρ, S, at_, p⟩
  refine ⟨F, α, ρ, S, at_, post_mono (post_bind p) fun α1 S1 H1 d e1 p1 r1 q v rv => ?_⟩
  have q' : post (G.mk X.K cls) F α1 H1 ((asB d S1).bind fun b S2 => R.ok b S2) (CT Q) E := by
    have e : (asB d S1).bind (fun b S2 => R.ok b S2) = asB d S1 := by cases asB d S1 <;> rfl
    rw [e]
    exact q
  obtain ⟨c, hc, q2⟩ := post_asB rv q'
  exact ⟨c, hc, post_ok q2 r1⟩
theorem mt_b {m : ME} (h : PE X e (tM (G.mk X.K cls) E m)) (he : ∀ whole, isTrue e X.env whole = (do let v ← whole; standAt e.pos; holding [v] (truthy v)) := by intro _; rfl) : PT X e (tMT (G.mk X.K cls) E (mB m)) := ptI (pt_val h he) b_reads
theorem if_reads {β : Type} {F : List (Addr × HO)} {α : List Addr} {H : Hp} {C : List Addr → Store → Hp → β → Prop} {c : Bool} {x y : R β} (p : post (G.mk X.K cls) F α H (if c = true then x else y) C E) {P1 P2 : Prop} (h1 : post (G.mk X.K cls) F α H x C E → P1) (h2 : post (G.mk X.K cls) F α H y C E → P2) : if c = true then P1 else P2 := by
  cases c with
  | true => rw [if_pos rfl] at p ⊢; exact h1 p
  | false => rw [if_neg Bool.false_ne_true] at p ⊢; exact h2 p
theorem mt_and {m n : MT} {rest : List Expr} (ha : PT X a (tMT (G.mk X.K cls) E m)) (hb : PW X (.BoolOp .And (b :: rest) pos) (tMT (G.mk X.K cls) E n)) : PW X (.BoolOp .And (a :: b :: rest) pos) (tMT (G.mk X.K cls) E (mAndT m n)) := by
  refine pwI (pw_and ha hb) ?_
  rintro σ H Q ⟨F, α, ρ, S, at_, p⟩
  refine ⟨F, α, ρ, S, at_, post_mono (post_bind p) fun α1 S1 H1 d e1 p1 r1 q => ?_⟩
  exact if_reads q (fun q => ⟨F, α1, ρ, S1, at_.later e1 p1 r1, q⟩) fun q => post_ok q r1
theorem mt_or {m n : MT} {rest : List Expr} (ha : PT X a (tMT (G.mk X.K cls) E m)) (hb : PW X (.BoolOp .Or (b :: rest) pos) (tMT (G.mk X.K cls) E n)) : PW X (.BoolOp .Or (a :: b :: rest) pos) (tMT (G.mk X.K cls) E (mOrT m n)) := by
  refine pwI (pw_or ha hb) ?_
  rintro σ H Q ⟨F, α, ρ, S, at_, p⟩
  refine ⟨F, α, ρ, S, at_, post_mono (post_bind p) fun α1 S1 H1 d e1 p1 r1 q => ?_⟩
  exact if_reads q (fun q => post_ok q r1) fun q => ⟨F, α1, ρ, S1, at_.later e1 p1 r1, q⟩
theorem mt_and1 {m : MT} (ha : PT X a (tMT (G.mk X.K cls) E m)) : PW X (.BoolOp .And [a] pos) (tMT (G.mk X.K cls) E m) := pw_and1 ha
theorem mt_or1 {m : MT} (ha : PT X a (tMT (G.mk X.K cls) E m)) : PW X (.BoolOp .Or [a] pos) (tMT (G.mk X.K cls) E m) := pw_or1 ha
theorem mt_w {t : TT} (h : PW X e t) : PT X e t := h.pt
theorem mt_not {m : MT} (ha : PT X a (tMT (G.mk X.K cls) E m)) : PT X (.UnaryOp .Not a pos) (tMT (G.mk X.K cls) E (mNotT m)) := by
  refine ptI (pt_not ha) ?_
  rintro σ H Q ⟨F, α, ρ, S, at_, p⟩
  exact ⟨F, α, ρ, S, at_, post_mono (post_bind p) fun α1 S1 H1 d e1 p1 r1 q => post_ok (E := E) q r1⟩
theorem me_and {m n : ME} {rest : List Expr} (ha : PE X a (tM (G.mk X.K cls) E m)) (hb : PE X (.BoolOp .And (b :: rest) pos) (tM (G.mk X.K cls) E n)) : PE X (.BoolOp .And (a :: b :: rest) pos) (tM (G.mk X.K cls) E (mAnd m n)) := by
  refine peI (pe_and ha hb) ?_
  rintro σ H Q ⟨F, α, ρ, S, at_, p⟩
  refine ⟨F, α, ρ, S, at_, post_mono (post_bind p) fun α1 S1 H1 d e1 p1 r1 q v rv => ?_⟩
  obtain ⟨c, hc, q2⟩ := post_asB rv q
  exact ⟨c, hc, if_reads q2 (fun q => ⟨F, α1, ρ, S1, at_.later e1 p1 r1, q⟩) fun q => post_ok q r1 _ (.bl false)⟩
theorem me_or {m n : ME} {rest : List Expr} (ha : PE X a (tM (G.mk X.K cls) E m)) (hb : PE X (.BoolOp .Or (b :: rest) pos) (tM (G.mk X.K cls) E n)) : PE X (.BoolOp .Or (a :: b :: rest) pos) (tM (G.mk X.K cls) E (mOr m n)) := by
  refine peI (pe_or ha hb) ?_
  rintro σ H Q ⟨F, α, ρ, S, at_, p⟩
  refine ⟨F, α, ρ, S, at_, post_mono (post_bind p) fun α1 S1 H1 d e1 p1 r1 q v rv => ?_⟩
  obtain ⟨c, hc, q2⟩ := post_asB rv q
  exact ⟨c, hc, if_reads q2 (fun q => post_ok q r1 _ (.bl true)) fun q => ⟨F, α1, ρ, S1, at_.later e1 p1 r1, q⟩⟩
theorem me_one {op : BoolOp} {m : ME} (ha : PE X a (tM (G.mk X.K cls) E m)) : PE X (.BoolOp op [a] pos) (tM (G.mk X.K cls) E m) := pe_one ha
theorem me_not {m : ME} (ha : PE X a (tM (G.mk X.K cls) E m)) : PE X (.UnaryOp .Not a pos) (tM (G.mk X.K cls) E (mNot m)) := by
  refine peI (pe_not ha) ?_
  rintro σ H Q ⟨F, α, ρ, S, at_, p⟩
  refine ⟨F, α, ρ, S, at_, post_mono (post_bind p) fun α1 S1 H1 d e1 p1 r1 q v rv => ?_⟩
  obtain ⟨c, hc, q2⟩ := post_asB rv q
  exact ⟨c, hc, post_ok q2 r1 _ (.bl _)⟩
theorem me_if {t : MT} {m n : ME} (hc : PT X c (tMT (G.mk X.K cls) E t)) (ha : PE X a (tM (G.mk X.K cls) E m)) (hb : PE X b (tM (G.mk X.K cls) E n)) : PE X (.IfExp c a b pos) (tM (G.mk X.K cls) E (mIf t m n)) := by
  refine peI (pe_ifExp hc ha hb) ?_
  rintro σ H Q ⟨F, α, ρ, S, at_, p⟩
  refine ⟨F, α, ρ, S, at_, post_mono (post_bind p) fun α1 S1 H1 d e1 p1 r1 q => ?_⟩
  exact if_reads q (fun q => ⟨F, α1, ρ, S1, at_.later e1 p1 r1, q⟩) fun q => ⟨F, α1, ρ, S1, at_.later e1 p1 r1, q⟩

/-! ### arguments, displays -/
def mNil : MAs := fun _ S => .ok [] S
def mCons (m : ME) (n : MAs) : MAs := fun ρ S => (m ρ S).bind fun d S1 => (n ρ S1).bind fun ds S2 => .ok (d :: ds) S2
theorem ma_nil : PA X [] (tMA (G.mk X.K cls) E mNil) := paI pa_nil fun σ H Q ⟨F, α, ρ, S, at_, p⟩ => post_ok p at_.rep [] .nil
theorem ma_cons {m : ME} {n : MAs} (ha : PE X e (tM (G.mk X.K cls) E m)) (hr : PA X es (tMA (G.mk X.K cls) E n)) (hs : starEach (e :: es) X.env = (false, eval e X.env) :: starEach es X.env := by rfl) : PA X (e :: es) (tMA (G.mk X.K cls) E (mCons m n)) := by
  refine paI (pa_cons ha hr hs) ?_
  rintro σ H Q ⟨F, α, ρ, S, at_, p⟩
  refine ⟨F, α, ρ, S, at_, post_mono (post_bind p) fun α1 S1 H1 d e1 p1 r1 q v rv => ?_⟩
  refine ⟨F, α1, ρ, S1, at_.later e1 p1 r1, post_mono (post_bind q) fun α2 S2 H2 ds e2 p2 r2 q2 vs rvs => ?_⟩
  exact post_ok q2 r2 _ (.cons (rv.mono e2 p2) rvs)
/-- sizes within the model's line -/
def fits (n : Nat) : Bool := n ≤ 16000000
theorem fits_le {n : Nat} (h : fits n = true) : n ≤ sizeLine := by
  have h' : n ≤ 16000000 := of_decide_eq_true h
  rw [sizeLine_eq]
  omega
theorem fits_lt {n : Nat} (h : fits n = true) : n < sizeLine := by
  have h' : n ≤ 16000000 := of_decide_eq_true h
  rw [sizeLine_eq]
  omega
def mTup (m : MAs) : ME := fun ρ S => (m ρ S).bind fun ds S1 => if fits ds.length = true then .ok (.tup ds) S1 else .bad
theorem post_fits {F : List (Addr × HO)} {α : List Addr} {H : Hp} {γ : Type} {n : Nat} {x : R γ} {C : List Addr → Store → Hp → γ → Prop} (p : post (G.mk X.K cls) F α H (if fits n = true then x else .bad) C E) : fits n = true ∧ post (G.mk X.K cls) F α H x C E := by
  by_cases h : fits n = true
  · rw [if_pos h] at p; exact ⟨h, p⟩
  · rw [if_neg h] at p; exact False.elim p
theorem post_if {F : List (Addr × HO)} {α : List Addr} {H : Hp} {γ : Type} {c : Prop} [Decidable c] {x : R γ} {C : List Addr → Store → Hp → γ → Prop} (p : post (G.mk X.K cls) F α H (if c then x else .bad) C E) : c ∧ post (G.mk X.K cls) F α H x C E := by
  by_cases h : c
  · rw [if_pos h] at p; exact ⟨h, p⟩
  · rw [if_neg h] at p; exact False.elim p
theorem me_tup {x1} {m : MAs} (h : PA X es (tMA (G.mk X.K cls) E m)) : PE X (.Tuple es x1 pos) (tM (G.mk X.K cls) E (mTup m)) := by
  refine peI (pe_tup h) ?_
  rintro σ H Q ⟨F, α, ρ, S, at_, p⟩
  refine ⟨F, α, ρ, S, at_, post_mono (post_bind p) fun α1 S1 H1 ds e1 p1 r1 q vs rvs => ?_⟩
  obtain ⟨hf, q⟩ := post_fits q
  refine ⟨by rw [rvs.length]; exact fits_le hf, fun p hp => ?_⟩
  exact q α1 _ (Ext.new hp _) (List.prefix_refl _) (r1.beside hp _) _ (.tup (.inl upd_same) (rvs.mono (Ext.new hp _) (List.prefix_refl _)))
def mFits (m : MAs) : MAs := fun ρ S => (m ρ S).bind fun ds S1 => if fits ds.length = true then .ok ds S1 else .bad
theorem ml_lst {m : MAs} (h : PA X es (tMA (G.mk X.K cls) E m)) : PE X (.List es pos) (tML (G.mk X.K cls) E (mFits m)) := by
  refine peI (pe_lst h) ?_
  rintro σ H Q ⟨F, α, ρ, S, at_, p⟩
  refine ⟨F, α, ρ, S, at_, post_mono (post_bind p) fun α1 S1 H1 ds e1 p1 r1 q vs rvs => ?_⟩
  obtain ⟨hf, q⟩ := post_fits q
  refine ⟨by rw [rvs.length]; exact fits_le hf, fun p hp => ?_⟩
  exact q α1 _ (Ext.new hp _) (List.prefix_refl _) (r1.beside hp _) p vs upd_same (r1.notin hp) (fun q hq => ne_of_none (r1.pin q hq).1 hp) (rvs.mono (Ext.new hp _) (List.prefix_refl _))
/-- a new list goes into the store -/
def mNew (m : MAs) : ME := fun ρ S => (m ρ S).bind fun ds S1 => .ok (.ref S1.next) (S1.push (.lst ds))
theorem me_new {m : MAs} (h : PE X e (tML (G.mk X.K cls) E m)) : PE X e (tM (G.mk X.K cls) E (mNew m)) := by
  refine peI h ?_
  rintro σ H Q ⟨F, α, ρ, S, at_, p⟩
  refine ⟨F, α, ρ, S, at_, post_mono (post_bind p) fun α1 S1 H1 ds e1 p1 r1 q pp vs hp hn hF rvs => ?_⟩
  have pr : α1 <+: α1 ++ [pp] := List.prefix_append _ _
  refine q (α1 ++ [pp]) H1 (Ext.refl _) pr (r1.push hn hF ⟨vs, hp, rvs.mono (Ext.refl _) pr⟩) _ (.ref ?_)
  rw [← r1.len]
  simp
end
end MM

/-! The mirror layer, part C: statements, loops, comprehensions, calls. -/
namespace MM
open PySem L2 PyProof.Rows PySem.Spec

theorem Ext.ofSame {H H' : Hp} (h : Same H H') : Ext H H' := ⟨fun a vs e => h a _ e, fun a o vs e => h a _ e⟩
theorem Same.new {H : Hp} {p : Addr} (h : H p = none) (o : HO) : Same H (upd H p o) := fun b u q => by rw [upd_ne (ne_of_none q h)]; exact q
/-! ### targets -/
def mGN (i : Nat) : MG := fun d ρ S => .ok (ρ.set i (some d)) S
def mGNil : MGs := fun ds ρ S => match ds with
  | [] => .ok ρ S
  | _ => .bad
def mGCons (g : MG) (gs : MGs) : MGs := fun ds ρ S => match ds with
  | d :: ds => (g d ρ S).bind fun ρ1 S1 => gs ds ρ1 S1
  | [] => .bad
def mGT (n : Nat) (gs : MGs) : MG := fun d ρ S => match d with
  | .tup ds => if ds.length = n then gs ds ρ S else .bad
  | _ => .bad
section
variable {X : Cx} {cls : Str → Addr} {E : XK} {x : Str} {e a b c : Expr} {es : List Expr} {pos : Pos}
theorem gname_reads (i : Nat) : ∀ v σ H Q, tMG (G.mk X.K cls) E (mGN i) v σ H Q → gName i v σ H Q := by
  rintro v σ H Q ⟨F, α, ρ, S, d, at_, rv, p⟩
  exact post_ok (E := E) p at_.rep _ (at_.re.set rv i)
theorem mg_name {i : Nat} (hN : X.N.Nodup) (hi : X.N[i]? = some x) (hx : Loc X.env.scope x) (hf : X.fn x = true ∨ X.env.scope.names.lookup x = some .local := by first | exact .inl rfl | exact .inr rfl | assumption) :
    PG X (.Name x pos) (tMG (G.mk X.K cls) E (mGN i)) := pgI (pg_name hN hi hx hf) (gname_reads i)
theorem mg_nil : PGs X [] (tMGs (G.mk X.K cls) E mGNil) := by
  refine pgsI pgs_nil ?_
  rintro vs σ H Q ⟨F, α, ρ, S, ds, at_, rv, p⟩
  cases rv with
  | nil => exact ⟨rfl, post_ok (E := E) p at_.rep _ at_.re⟩
  | cons _ _ => exact False.elim p
theorem mg_cons {g : MG} {gs : MGs} (h1 : PG X e (tMG (G.mk X.K cls) E g)) (h2 : PGs X es (tMGs (G.mk X.K cls) E gs)) (hs : (assignEach (e :: es) X.env).map (·.2) = assign e X.env :: (assignEach es X.env).map (·.2) := by rfl) : PGs X (e :: es) (tMGs (G.mk X.K cls) E (mGCons g gs)) := by
  refine pgsI (pgs_cons h1 h2 hs) ?_
  rintro vs σ H Q ⟨F, α, ρ, S, ds, at_, rv, p⟩
  cases rv with
  | nil => exact False.elim p
  | cons r rs =>
    refine ⟨_, _, rfl, F, α, ρ, S, _, at_, r, post_mono (post_bind p) fun α1 S1 H1 ρ1 e1 p1 r1 q σ1 re1 => ?_⟩
    exact ⟨F, α1, ρ1, S1, _, ⟨r1, re1⟩, rs.mono e1 p1, q⟩
theorem mg_tup {k n : Nat} {gs : MGs} (ht : PG X (.Tuple es k pos) (gTup X.K n (tMGs (G.mk X.K cls) E gs))) : PG X (.Tuple es k pos) (tMG (G.mk X.K cls) E (mGT n gs)) := by
  refine pgI ht ?_
  rintro v σ H Q ⟨F, α, ρ, S, d, at_, rv, p⟩
  unfold mGT at p
  cases rv with
  | tup ht hs =>
    obtain ⟨hl, p⟩ := post_if p
    exact ⟨_, _, rfl, ht.sq, by rw [hs.length]; exact hl, F, α, ρ, S, _, at_, hs, p⟩
  | non => exact False.elim p
  | bl _ => exact False.elim p
  | int _ => exact False.elim p
  | str _ => exact False.elim p
  | ref _ => exact False.elim p
  | rl _ _ => exact False.elim p

/-! ### statements -/
def mNext : MS := fun ρ S => .ok (.nx ρ) S
def mSeq (m n : MS) : MS := fun ρ S => (m ρ S).bind fun f S1 => match f with
  | .nx ρ1 => n ρ1 S1
  | f => .ok f S1
def mDrop (m : ME) : MS := fun ρ S => (m ρ S).bind fun _ S1 => .ok (.nx ρ) S1
def mRet (m : ME) : MS := fun ρ S => (m ρ S).bind fun d S1 => .ok (.rt d) S1
def mRetN : MS := fun _ S => .ok (.rt .non) S
def mIfS (t : MT) (m n : MS) : MS := fun ρ S => (t ρ S).bind fun b S1 => if b = true then m ρ S1 else n ρ S1
def mBrk : MS := fun ρ S => .ok (.bk ρ) S
def mCnt : MS := fun ρ S => .ok (.ct ρ) S
def mNever : MS := fun _ _ => .bad
def mAsg (m : ME) (g : MG) : MS := fun ρ S => (m ρ S).bind fun d S1 => (g d ρ S1).bind fun ρ1 S2 => .ok (.nx ρ1) S2
variable {st : Stmt} {sts : List Stmt}
theorem mss_nil : PSs X [] (tMS (G.mk X.K cls) E mNext) := pssI pss_nil fun C σ H ⟨F, α, ρ, S, at_, p⟩ => post_ok (E := E) p at_.rep _ at_.re
theorem mss_cons {m n : MS} (h1 : PS X st (tMS (G.mk X.K cls) E m)) (h2 : PSs X sts (tMS (G.mk X.K cls) E n)) : PSs X (st :: sts) (tMS (G.mk X.K cls) E (mSeq m n)) := by
  refine pssI (pss_cons h1 h2) ?_
  rintro C σ H ⟨F, α, ρ, S, at_, p⟩
  refine ⟨F, α, ρ, S, at_, post_mono (post_bind p) fun α1 S1 H1 f e1 p1 r1 q => ?_⟩
  cases f with
  | nx ρ1 => exact fun σ1 re1 => ⟨F, α1, ρ1, S1, ⟨r1, re1⟩, q⟩
  | rt d => exact post_ok (E := E) q r1
  | bk ρ1 => exact post_ok (E := E) q r1
  | ct ρ1 => exact post_ok (E := E) q r1
theorem mss_one {m : MS} (h1 : PS X st (tMS (G.mk X.K cls) E m)) : PSs X [st] (tMS (G.mk X.K cls) E m) := pss_one h1
theorem ms_expr {m : ME} (h : PE X e (tM (G.mk X.K cls) E m)) (hs : swapsWith e none pos.line X.env = pure false := by rfl) : PS X (.Expr e pos) (tMS (G.mk X.K cls) E (mDrop m)) := by
  refine psI (ps_expr h hs) ?_
  rintro C σ H ⟨F, α, ρ, S, at_, p⟩
  exact ⟨F, α, ρ, S, at_, post_mono (post_bind p) fun α1 S1 H1 d e1 p1 r1 q v rv => post_ok (E := E) q r1 σ (at_.re.mono e1 p1)⟩
theorem ms_ret {m : ME} (h : PE X e (tM (G.mk X.K cls) E m)) : PS X (.Return (some e) pos) (tMS (G.mk X.K cls) E (mRet m)) := by
  refine psI (ps_ret h) ?_
  rintro C σ H ⟨F, α, ρ, S, at_, p⟩
  exact ⟨F, α, ρ, S, at_, post_mono (post_bind p) fun α1 S1 H1 d e1 p1 r1 q v rv => post_ok (E := E) q r1 v rv⟩
theorem ms_retN : PS X (.Return none pos) (tMS (G.mk X.K cls) E mRetN) := psI ps_retN fun C σ H ⟨F, α, ρ, S, at_, p⟩ => post_ok (E := E) p at_.rep _ .non
theorem ms_if {t : MT} {m n : MS} {sa sb : List Stmt} (hc : PT X c (tMT (G.mk X.K cls) E t)) (ha : PSs X sa (tMS (G.mk X.K cls) E m)) (hb : PSs X sb (tMS (G.mk X.K cls) E n)) : PS X (.If c sa sb pos) (tMS (G.mk X.K cls) E (mIfS t m n)) := by
  refine psI (ps_if hc ha hb) ?_
  rintro C σ H ⟨F, α, ρ, S, at_, p⟩
  refine ⟨F, α, ρ, S, at_, post_mono (post_bind p) fun α1 S1 H1 d e1 p1 r1 q => ?_⟩
  exact if_reads q (fun q => ⟨F, α1, ρ, S1, at_.later e1 p1 r1, q⟩) fun q => ⟨F, α1, ρ, S1, at_.later e1 p1 r1, q⟩
theorem ms_pass : PS X (.Pass pos) (tMS (G.mk X.K cls) E mNext) := psI ps_pass fun C σ H ⟨F, α, ρ, S, at_, p⟩ => post_ok (E := E) p at_.rep _ at_.re
theorem ms_doc {s : Str} {j : Nat} {pos' : Pos} : PS X (.Expr (.Constant (.str s) j pos) pos') (tMS (G.mk X.K cls) E mNext) := psI ps_doc fun C σ H ⟨F, α, ρ, S, at_, p⟩ => post_ok (E := E) p at_.rep _ at_.re
theorem ms_brk : PS X (.Break pos) (tMS (G.mk X.K cls) E mBrk) := psI ps_break fun C σ H ⟨F, α, ρ, S, at_, p⟩ => post_ok (E := E) p at_.rep _ at_.re
theorem ms_cnt : PS X (.Continue pos) (tMS (G.mk X.K cls) E mCnt) := psI ps_continue fun C σ H ⟨F, α, ρ, S, at_, p⟩ => post_ok (E := E) p at_.rep _ at_.re
theorem ms_never : PS X st (tMS (G.mk X.K cls) E mNever) := psI ps_never fun C σ H ⟨F, α, ρ, S, at_, p⟩ => p
theorem ms_asg {tg : Expr} {m : ME} {g : MG} (he : PE X e (tM (G.mk X.K cls) E m)) (hg : PG X tg (tMG (G.mk X.K cls) E g)) (hs : swapsWithSole [tg] e pos.line X.env = pure false := by rfl) (hw : swappedStores [tg] e X.env = pure none := by rfl) (h1 : (assignEach [tg] X.env).map (·.2) = [assign tg X.env] := by rfl) :
    PS X (.Assign [tg] e pos) (tMS (G.mk X.K cls) E (mAsg m g)) := by
  refine psI (ps_asg he hg hs hw h1) ?_
  rintro C σ H ⟨F, α, ρ, S, at_, p⟩
  refine ⟨F, α, ρ, S, at_, post_mono (post_bind p) fun α1 S1 H1 d e1 p1 r1 q v rv => ?_⟩
  refine ⟨F, α1, ρ, S1, d, at_.later e1 p1 r1, rv, post_mono (post_bind q) fun α2 S2 H2 ρ2 e2 p2 r2 q2 σ2 re2 => ?_⟩
  exact post_ok (E := E) q2 r2 σ2 re2

/-! ### while -/
def mWhile (c : MT) (b : MS) : Nat → MS
  | 0 => fun _ _ => .bad
  | n + 1 => fun ρ S => (c ρ S).bind fun t S1 => if t = true then (b ρ S1).bind fun f S2 => match f with
      | .nx ρ' => mWhile c b n ρ' S2
      | .ct ρ' => mWhile c b n ρ' S2
      | .bk ρ' => .ok (.nx ρ') S2
      | .rt d => .ok (.rt d) S2
    else .ok (.nx ρ) S1
theorem ms_while {body : List Stmt} {mc : MT} {mb : MS} (n : Nat) (hp : PassesOwn (model X.prog X.w) X.A X.env X.xe) (hc : PT X c (tMT (G.mk X.K cls) E mc)) (hb : PSs X body (tMS (G.mk X.K cls) E mb)) : PS X (.While c body [] pos) (tMS (G.mk X.K cls) E (mWhile mc mb n)) := by
  refine psI (ps_while hp hc hb) ?_
  rintro C σ H ⟨F, α, ρ, S, at_, p⟩
  refine ⟨fun m σ H => ∃ F α ρ S, At (G.mk X.K cls) F σ H α ρ S ∧ post (G.mk X.K cls) F α H (mWhile mc mb m ρ S) (CS (G.mk X.K cls) C) E, ⟨n, F, α, ρ, S, at_, p⟩, ?_⟩
  rintro m σ H ⟨F, α, ρ, S, at_, p⟩
  cases m with
  | zero => exact False.elim p
  | succ m =>
    unfold mWhile at p
    refine ⟨F, α, ρ, S, at_, post_mono (post_bind p) fun α1 S1 H1 t e1 p1 r1 q => ?_⟩
    refine if_reads q (fun q => ?_) fun q => post_ok (E := E) q r1 σ (at_.re.mono e1 p1)
    refine ⟨fun σ H => ∃ F α ρ S, At (G.mk X.K cls) F σ H α ρ S ∧ post (G.mk X.K cls) F α H (mWhile mc mb m ρ S) (CS (G.mk X.K cls) C) E, fun σ' H' h => ⟨m, Nat.lt_succ_self _, h⟩, ?_⟩
    refine ⟨F, α1, ρ, S1, at_.later e1 p1 r1, post_mono (post_bind q) fun α2 S2 H2 f e2 p2 r2 q2 => ?_⟩
    cases f with
    | nx ρ' => exact fun σ2 re2 => ⟨F, α2, ρ', S2, ⟨r2, re2⟩, q2⟩
    | ct ρ' => exact fun σ2 re2 => ⟨F, α2, ρ', S2, ⟨r2, re2⟩, q2⟩
    | bk ρ' => exact fun σ2 re2 => post_ok (E := E) q2 r2 σ2 re2
    | rt d => exact fun v rv => post_ok (E := E) q2 r2 v rv

end
/-! ### what is walked -/
inductive IT where
  /-- a list of the store, as it stands at each turn; data; lo, lo + 1, ..; a list with its positions; two lists side by side -/
  | lst (n : Nat) | dat (ds : List D) | rng (lo : Int) (n : Nat) | enm (n : Nat) | zip (n m : Nat)
/-- some (some d): the i-th thing; some none: no more -/
def IT.at : IT → Nat → Store → Option (Option D)
  | .lst n, i, S => match S.get n with
    | some (.lst ds) => some ds[i]?
    | _ => none
  | .dat ds, i, _ => some ds[i]?
  | .rng lo n, i, _ => some (if i < n then some (.int (lo + i)) else none)
  | .enm n, i, S => match S.get n with
    | some (.lst ds) => some (ds[i]?.map fun d => .tup [.int (i : Nat), d])
    | _ => none
  | .zip n m, i, S => match S.get n, S.get m with
    | some (.lst ds), some (.lst es) => some (match ds[i]?, es[i]? with
      | some d, some e => some (.tup [d, e])
      | _, _ => none)
    | _, _ => none
/-- turns and one more -/
def IT.fuel : IT → Store → Nat
  | .lst n, S => match S.get n with
    | some (.lst ds) => ds.length + 1
    | _ => 0
  | .dat ds, _ => ds.length + 1
  | .rng _ n, _ => n + 1
  | .enm n, S => match S.get n with
    | some (.lst ds) => ds.length + 1
    | _ => 0
  | .zip n _, S => match S.get n with
    | some (.lst ds) => ds.length + 1
    | _ => 0
def ItOk (Γ' : G) (α : List Addr) (H : Hp) (J : It) (j : IT) : Prop := ∀ i F α' S' H', Ext H H' → α <+: α' → Rep Γ' F α' S' H' →
  (j.at i S' = some none → J.stop i H') ∧ ∀ d, j.at i S' = some (some d) → J.go i H' ∧ ∀ x H2, J.yld i H' x H2 → Same H' H2 ∧ Rep Γ' F α' S' H2 ∧ RV Γ'.K α' H2 x d
abbrev MI := Env → Store → R IT
def tMI (Γ' : G) (E : XK) (m : MI) : TI := fun σ H R => ∃ F α ρ S, At Γ' F σ H α ρ S ∧ post Γ' F α H (m ρ S) (fun α' _ H' j => ∀ J, ItOk Γ' α' H' J j → R J H') E
section
variable {X : Cx} {cls : Str → Addr} {E : XK} {x : Str} {e a b c : Expr} {es : List Expr} {pos : Pos} {st : Stmt} {sts : List Stmt}
def mForL (j : IT) (g : MG) (b : MS) : Nat → Nat → MS
  | 0, _ => fun _ _ => .bad
  | n + 1, i => fun ρ S => match j.at i S with
    | none => .bad
    | some none => .ok (.nx ρ) S
    | some (some d) => (g d ρ S).bind fun ρ1 S1 => (b ρ1 S1).bind fun f S2 => match f with
      | .nx ρ' => mForL j g b n (i + 1) ρ' S2
      | .ct ρ' => mForL j g b n (i + 1) ρ' S2
      | .bk ρ' => .ok (.nx ρ') S2
      | .rt d => .ok (.rt d) S2
def mFor (m : MI) (g : MG) (b : MS) : MS := fun ρ S => (m ρ S).bind fun j S1 => mForL j g b (j.fuel S1) 0 ρ S1
theorem ms_for {tg iter : Expr} {body : List Stmt} {mi : MI} {g : MG} {mb : MS} (hp : PassesOwn (model X.prog X.w) X.A X.env X.xe) (hc : X.calm = true) (hi : PI X tg iter (tMI (G.mk X.K cls) E mi)) (hg : PG X tg (tMG (G.mk X.K cls) E g)) (hb : PSs X body (tMS (G.mk X.K cls) E mb))
    (hs : ∀ x, foldedSetIterable iter X.env x = pure x := by intro _; rfl) : PS X (.For tg iter body [] pos) (tMS (G.mk X.K cls) E (mFor mi g mb)) := by
  refine psI (ps_for hp hc hi hg hb hs) ?_
  rintro C σ H ⟨F, α, ρ, S, at_, p⟩
  refine ⟨F, α, ρ, S, at_, post_mono (post_bind p) fun α1 S1 H1 j e1 p1 r1 q J hJ => ?_⟩
  refine ⟨fun i m σ H' => ∃ F α' ρ' S', Ext H1 H' ∧ α1 <+: α' ∧ At (G.mk X.K cls) F σ H' α' ρ' S' ∧ post (G.mk X.K cls) F α' H' (mForL j g mb m i ρ' S') (CS (G.mk X.K cls) C) E, ⟨_, F, α1, ρ, S1, Ext.refl _, List.prefix_refl _, at_.later e1 p1 r1, q⟩, ?_⟩
  rintro i m σ H ⟨F, α, ρ, S, ex, px, at_, p⟩
  cases m with
  | zero => exact False.elim p
  | succ m =>
    unfold mForL at p
    have hj := hJ i F α S H ex px at_.rep
    cases hat : j.at i S with
    | none => rw [hat] at p; exact False.elim p
    | some o =>
      rw [hat] at p
      cases o with
      | none => exact .inl ⟨hj.1 hat, post_ok (E := E) p at_.rep σ at_.re⟩
      | some d =>
        obtain ⟨go, hy⟩ := hj.2 d hat
        refine .inr ⟨go, fun σ H' => ∃ F α' ρ' S', Ext H1 H' ∧ α1 <+: α' ∧ At (G.mk X.K cls) F σ H' α' ρ' S' ∧ post (G.mk X.K cls) F α' H' (mForL j g mb m (i + 1) ρ' S') (CS (G.mk X.K cls) C) E, fun σ' H' h => ⟨m, Nat.lt_succ_self _, h⟩, fun x H2 y => ?_⟩
        obtain ⟨e2s, r2, rv⟩ := hy x H2 y
        have e2 := Ext.ofSame e2s
        refine ⟨F, α, ρ, S, d, ⟨r2, at_.re.mono e2 (List.prefix_refl _)⟩, rv, post_mono (post_bind (post_later p e2 (List.prefix_refl _))) fun α3 S3 H3 ρ3 e3 p3 r3 q3 σ3 re3 => ?_⟩
        refine ⟨F, α3, ρ3, S3, ⟨r3, re3⟩, post_mono (post_bind q3) fun α4 S4 H4 f e4 p4 r4 q4 => ?_⟩
        have ex4 := ((ex.trans e2).trans e3).trans e4
        have px4 := (px.trans p3).trans p4
        cases f with
        | nx ρ' => exact fun σ2 re2 => ⟨F, α4, ρ', S4, ex4, px4, ⟨r4, re2⟩, q4⟩
        | ct ρ' => exact fun σ2 re2 => ⟨F, α4, ρ', S4, ex4, px4, ⟨r4, re2⟩, q4⟩
        | bk ρ' => exact fun σ2 re2 => post_ok (E := E) q4 r4 σ2 re2
        | rt d => exact fun v rv => post_ok (E := E) q4 r4 v rv
/-- a list (of the store, or one that nobody changes), by its name or another expression -/
def asIt : D → Store → R IT
  | .ref n, S => match S.get n with
    | some (.lst _) => .ok (.lst n) S
    | _ => .bad
  | .rl ds, S => .ok (.dat ds) S
  | _, _ => .bad
def asItT : D → Store → R IT
  | .tup ds, S => .ok (.dat ds) S
  | _, _ => .bad
def mIL (m : ME) : MI := fun ρ S => (m ρ S).bind asIt
def mIT (m : ME) : MI := fun ρ S => (m ρ S).bind asItT
end
end MM

/-! The mirror layer, part D: what is walked, comprehensions, fields, calls. -/
namespace MM
open PySem L2 PyProof.Rows PySem.Spec

section
variable {X : Cx} {cls : Str → Addr} {E : XK} {x : Str} {e a b c : Expr} {es : List Expr} {pos : Pos} {st : Stmt} {sts : List Stmt} {tg : Expr}

/-! ### what is walked -/
theorem at_lst {n i : Nat} {S : Store} {o : Option D} (h : (IT.lst n).at i S = some o) : ∃ ds, S.get n = some (.lst ds) ∧ ds[i]? = o := by
  have h : (match S.get n with | some (O.lst ds) => some ds[i]? | _ => none) = some o := h
  split at h
  · rename_i ds hg
    exact ⟨ds, hg, Option.some.inj h⟩
  · cases h
theorem at_enm {n i : Nat} {S : Store} {o : Option D} (h : (IT.enm n).at i S = some o) : ∃ ds, S.get n = some (.lst ds) ∧ (ds[i]?.map fun d => D.tup [.int (i : Nat), d]) = o := by
  have h : (match S.get n with | some (O.lst ds) => some (ds[i]?.map fun d => D.tup [.int (i : Nat), d]) | _ => none) = some o := h
  split at h
  · rename_i ds hg
    exact ⟨ds, hg, Option.some.inj h⟩
  · cases h
theorem at_zip {n m i : Nat} {S : Store} {o : Option D} (h : (IT.zip n m).at i S = some o) : ∃ ds es, S.get n = some (.lst ds) ∧ S.get m = some (.lst es) ∧ (match ds[i]?, es[i]? with
      | some d, some e => some (D.tup [d, e])
      | _, _ => none) = o := by
  have h : (match S.get n, S.get m with | some (O.lst ds), some (O.lst es) => some (match ds[i]?, es[i]? with | some d, some e => some (D.tup [d, e]) | _, _ => none) | _, _ => none) = some o := h
  split at h
  · rename_i ds es hg hk
    exact ⟨ds, es, hg, hk, Option.some.inj h⟩
  · cases h
theorem itOk_lst {α : List Addr} {H : Hp} {n : Nat} {p : Addr} (h : α[n]? = some p) : ItOk (G.mk X.K cls) α H (Itl X.K p) (.lst n) := by
  intro i F α' S' H' e1 p1 r1
  have h' := pre_get p1 h
  refine ⟨fun hat => ?_, fun d hat => ?_⟩
  · obtain ⟨ds, hg, hi⟩ := at_lst hat
    obtain ⟨vs, hv, rvs⟩ := r1.at hg h'
    exact ⟨vs, SqL.of hv, by rw [rvs.length]; exact List.getElem?_eq_none_iff.mp hi⟩
  · obtain ⟨ds, hg, hi⟩ := at_lst hat
    obtain ⟨vs, hv, rvs⟩ := r1.at hg h'
    have hs : SqL X.K H' p vs := SqL.of hv
    obtain ⟨v, hv2, rv⟩ := rvs.get hi
    refine ⟨⟨vs, v, hs, hv2⟩, fun x H2 ⟨eH, hx⟩ => ?_⟩
    subst eH
    have q := hx vs hs
    rw [hv2] at q
    cases q
    exact ⟨Same.refl _, r1, rv⟩
theorem itOk_rl {α : List Addr} {H : Hp} {p : Addr} {vs : List V} {ds : List D} (h : RlAt X.K H p vs) (rvs : RVs X.K α H vs ds) : ItOk (G.mk X.K cls) α H (Itl X.K p) (.dat ds) := by
  intro i F α' S' H' e1 p1 r1
  have hs : SqL X.K H' p vs := (h.mono e1).sq
  have rvs' := rvs.mono e1 p1
  refine ⟨fun hat => ?_, fun d hat => ?_⟩
  · exact ⟨vs, hs, by rw [rvs'.length]; exact List.getElem?_eq_none_iff.mp (Option.some.inj hat)⟩
  · obtain ⟨v, hv2, rv⟩ := rvs'.get (Option.some.inj hat)
    refine ⟨⟨vs, v, hs, hv2⟩, fun x H2 ⟨eH, hx⟩ => ?_⟩
    subst eH
    have q := hx vs hs
    rw [hv2] at q
    cases q
    exact ⟨Same.refl _, r1, rv⟩
theorem itOk_tup {α : List Addr} {H : Hp} {p : Addr} {vs : List V} {ds : List D} (h : TupAt X.K H p vs) (rvs : RVs X.K α H vs ds) : ItOk (G.mk X.K cls) α H (Itt X.K p) (.dat ds) := by
  intro i F α' S' H' e1 p1 r1
  have hs : SqT X.K H' p vs := (h.mono e1).sq
  have rvs' := rvs.mono e1 p1
  refine ⟨fun hat => ?_, fun d hat => ?_⟩
  · exact ⟨vs, hs, by rw [rvs'.length]; exact List.getElem?_eq_none_iff.mp (Option.some.inj hat)⟩
  · obtain ⟨v, hv2, rv⟩ := rvs'.get (Option.some.inj hat)
    refine ⟨⟨vs, v, hs, hv2⟩, fun x H2 ⟨eH, hx⟩ => ?_⟩
    subst eH
    have q := hx vs hs
    rw [hv2] at q
    cases q
    exact ⟨Same.refl _, r1, rv⟩
theorem itOk_rng {α : List Addr} {H : Hp} {lo : Int} {n : Nat} : ItOk (G.mk X.K cls) α H (Itr lo n) (.rng lo n) := by
  intro i F α' S' H' e1 p1 r1
  refine ⟨fun hat => ?_, fun d hat => ?_⟩
  · have h := Option.some.inj hat
    by_cases c : i < n
    · rw [if_pos c] at h
      cases h
    · exact Nat.le_of_not_lt c
  · have h := Option.some.inj hat
    by_cases c : i < n
    · rw [if_pos c] at h
      cases h
      refine ⟨c, fun x H2 ⟨eH, hx⟩ => ?_⟩
      subst eH
      subst hx
      exact ⟨Same.refl _, r1, .int _⟩
    · rw [if_neg c] at h
      cases h
theorem itOk_enm {α : List Addr} {H : Hp} {n : Nat} {p : Addr} (h : α[n]? = some p) : ItOk (G.mk X.K cls) α H (Ite X.K p) (.enm n) := by
  intro i F α' S' H' e1 p1 r1
  have h' := pre_get p1 h
  refine ⟨fun hat => ?_, fun d hat => ?_⟩
  · obtain ⟨ds, hg, hi⟩ := at_enm hat
    obtain ⟨vs, hv, rvs⟩ := r1.at hg h'
    exact ⟨vs, SqL.of hv, by rw [rvs.length]; exact List.getElem?_eq_none_iff.mp (Option.map_eq_none_iff.mp hi)⟩
  · obtain ⟨ds, hg, hi⟩ := at_enm hat
    obtain ⟨vs, hv, rvs⟩ := r1.at hg h'
    have hs : SqL X.K H' p vs := SqL.of hv
    obtain ⟨d0, hd0, rfl⟩ := Option.map_eq_some_iff.mp hi
    obtain ⟨v, hv2, rv⟩ := rvs.get hd0
    refine ⟨⟨vs, v, hs, hv2⟩, fun x H2 ⟨T, y, ex, hT, eH, hx⟩ => ?_⟩
    subst eH
    subst ex
    have q := hx vs hs
    rw [hv2] at q
    cases q
    have ee := Ext.new hT (HO.tup [V.int (i : Nat), v])
    exact ⟨Same.new hT _, r1.beside hT _, .tup (.inl upd_same) (.cons (.int _) (.cons (rv.mono ee (List.prefix_refl _)) .nil))⟩
theorem itOk_zip {α : List Addr} {H : Hp} {n m : Nat} {p q : Addr} (h : α[n]? = some p) (k : α[m]? = some q) : ItOk (G.mk X.K cls) α H (Itz X.K p q) (.zip n m) := by
  intro i F α' S' H' e1 p1 r1
  have h' := pre_get p1 h
  have k' := pre_get p1 k
  refine ⟨fun hat => ?_, fun d hat => ?_⟩
  · obtain ⟨ds, es, hg, hk, hi⟩ := at_zip hat
    obtain ⟨vs, hv, rvs⟩ := r1.at hg h'
    obtain ⟨ws, hw, rws⟩ := r1.at hk k'
    refine ⟨vs, ws, SqL.of hv, SqL.of hw, ?_⟩
    rw [rvs.length, rws.length]
    cases h1 : ds[i]? with
    | none => exact .inl (List.getElem?_eq_none_iff.mp h1)
    | some d1 =>
      cases h2 : es[i]? with
      | none => exact .inr (List.getElem?_eq_none_iff.mp h2)
      | some d2 => rw [h1, h2] at hi; cases hi
  · obtain ⟨ds, es, hg, hk, hi⟩ := at_zip hat
    obtain ⟨vs, hv, rvs⟩ := r1.at hg h'
    obtain ⟨ws, hw, rws⟩ := r1.at hk k'
    have hs : SqL X.K H' p vs := SqL.of hv
    have ht : SqL X.K H' q ws := SqL.of hw
    cases h1 : ds[i]? with
    | none => rw [h1] at hi; cases hi
    | some d1 =>
      cases h2 : es[i]? with
      | none => rw [h1, h2] at hi; cases hi
      | some d2 =>
        rw [h1, h2] at hi
        cases hi
        obtain ⟨v, hv2, rv⟩ := rvs.get h1
        obtain ⟨w, hw2, rw'⟩ := rws.get h2
        refine ⟨⟨vs, ws, v, w, hs, ht, hv2, hw2⟩, fun x H2 ⟨T, y, z, ex, hT, eH, hx, hy⟩ => ?_⟩
        subst eH
        subst ex
        have q1 := hx vs hs
        rw [hv2] at q1
        cases q1
        have q2 := hy ws ht
        rw [hw2] at q2
        cases q2
        have ee := Ext.new hT (HO.tup [v, w])
        exact ⟨Same.new hT _, r1.beside hT _, .tup (.inl upd_same) (.cons (rv.mono ee (List.prefix_refl _)) (.cons (rw'.mono ee (List.prefix_refl _)) .nil))⟩
theorem mi_list {m : ME} (h : PE X e (tM (G.mk X.K cls) E m)) : PI X tg e (tMI (G.mk X.K cls) E (mIL m)) := by
  refine piI (pi_list h) ?_
  rintro σ H R ⟨F, α, ρ, S, at_, p⟩
  refine ⟨F, α, ρ, S, at_, post_mono (post_bind p) fun α1 S1 H1 d e1 p1 r1 q v rv => ?_⟩
  cases rv with
  | ref hn =>
    rename_i pp n
    unfold asIt at q
    cases hg : S1.get n with
    | none => simp only [hg] at q; exact False.elim q
    | some o =>
      cases o with
      | dct _ => simp only [hg] at q; exact False.elim q
      | ins _ _ => simp only [hg] at q; exact False.elim q
      | lst ds =>
        simp only [hg] at q
        obtain ⟨vs, hv, rvs⟩ := r1.at hg hn
        exact ⟨_, rfl, ⟨vs, SqL.of hv⟩, post_ok (E := E) q r1 _ (itOk_lst hn)⟩
  | rl hr hs => exact ⟨_, rfl, ⟨_, hr.sq⟩, post_ok (E := E) q r1 _ (itOk_rl hr hs)⟩
  | non => exact False.elim q
  | bl _ => exact False.elim q
  | int _ => exact False.elim q
  | str _ => exact False.elim q
  | tup _ _ => exact False.elim q
theorem mi_tup {m : ME} (h : PE X e (tM (G.mk X.K cls) E m)) : PI X tg e (tMI (G.mk X.K cls) E (mIT m)) := by
  refine piI (pi_tup h) ?_
  rintro σ H R ⟨F, α, ρ, S, at_, p⟩
  refine ⟨F, α, ρ, S, at_, post_mono (post_bind p) fun α1 S1 H1 d e1 p1 r1 q v rv => ?_⟩
  cases rv with
  | tup hr hs => exact ⟨_, rfl, ⟨_, hr.sq⟩, post_ok (E := E) q r1 _ (itOk_tup hr hs)⟩
  | ref _ => exact False.elim q
  | rl _ _ => exact False.elim q
  | non => exact False.elim q
  | bl _ => exact False.elim q
  | int _ => exact False.elim q
  | str _ => exact False.elim q
/-- a list or a tuple -/
def iSeq (K : PySem.W.Frag) (tl : TE) : TI := fun σ H R => tl σ H fun x H1 => ∃ a, x = .ref a ∧ (((∃ xs, SqL K H1 a xs) ∧ R (Itl K a) H1) ∨ ((∃ xs, SqT K H1 a xs) ∧ R (Itt K a) H1))
theorem pi_seq {l : Expr} {tl : TE} (hl : PE X l tl) : PI X tg l (iSeq X.K tl) := by
  refine ⟨fun pins s σ H R I h => ?_⟩
  refine thn (hl.run pins s σ H _ I h) fun v s1 ⟨x, H1, I1, r1, a, ex, q⟩ => ?_
  subst ex
  cases r1
  have fp : ∀ b ∈ [s1.heap.objs.size], FpOk X pins H1 b := by
    intro b hb
    have eb : b = s1.heap.objs.size := by simpa using hb
    subst eb
    exact I1.fpOk (Nat.le_refl _) (I1.hok.fresh (Nat.le_refl _))
  rcases q with ⟨⟨xs, hq⟩, q⟩ | ⟨⟨xs, hq⟩, q⟩
  · obtain ⟨its, rv, pl, hz⟩ := I1.list hq
    refine wpAny_pyIter_list pl.isList ?_
    exact ⟨s1.heap.objs.size, [s1.heap.objs.size], _, _, H1, rfl, I1.kept (t' := s1.toks) fun b o e => Heap.get?_push_of_some _ e, turn_list a _, ⟨_, Heap.get?_push_size _ rfl, rfl, rfl⟩, fp, q⟩
  · obtain ⟨its, rv, ht, hz⟩ := I1.tuple hq
    refine wpAny_pyIter_tuple (show s1.heap.IsTuple a its.toArray from ht) ?_
    exact ⟨s1.heap.objs.size, [s1.heap.objs.size], _, _, H1, rfl, I1.kept (t' := s1.toks) fun b o e => Heap.get?_push_of_some _ e, turn_tuple a _, ⟨_, Heap.get?_push_size _ rfl, rfl, rfl⟩, fp, q⟩
def asItS : D → Store → R IT
  | .ref n, S => match S.get n with
    | some (.lst _) => .ok (.lst n) S
    | _ => .bad
  | .rl ds, S => .ok (.dat ds) S
  | .tup ds, S => .ok (.dat ds) S
  | _, _ => .bad
def mIS (m : ME) : MI := fun ρ S => (m ρ S).bind asItS
theorem mi_seq {m : ME} (h : PE X e (tM (G.mk X.K cls) E m)) : PI X tg e (tMI (G.mk X.K cls) E (mIS m)) := by
  refine piI (pi_seq h) ?_
  rintro σ H R ⟨F, α, ρ, S, at_, p⟩
  refine ⟨F, α, ρ, S, at_, post_mono (post_bind p) fun α1 S1 H1 d e1 p1 r1 q v rv => ?_⟩
  cases rv with
  | ref hn =>
    rename_i pp n
    unfold asItS at q
    cases hg : S1.get n with
    | none => simp only [hg] at q; exact False.elim q
    | some o =>
      cases o with
      | dct _ => simp only [hg] at q; exact False.elim q
      | ins _ _ => simp only [hg] at q; exact False.elim q
      | lst ds =>
        simp only [hg] at q
        obtain ⟨vs, hv, rvs⟩ := r1.at hg hn
        exact ⟨_, rfl, .inl ⟨⟨vs, SqL.of hv⟩, post_ok (E := E) q r1 _ (itOk_lst hn)⟩⟩
  | rl hr hs => exact ⟨_, rfl, .inl ⟨⟨_, hr.sq⟩, post_ok (E := E) q r1 _ (itOk_rl hr hs)⟩⟩
  | tup hr hs => exact ⟨_, rfl, .inr ⟨⟨_, hr.sq⟩, post_ok (E := E) q r1 _ (itOk_tup hr hs)⟩⟩
  | non => exact False.elim q
  | bl _ => exact False.elim q
  | int _ => exact False.elim q
  | str _ => exact False.elim q
/-- enumerate of a list, zip of two lists -/
def asEnm : D → Store → R IT
  | .ref n, S => match S.get n with
    | some (.lst _) => .ok (.enm n) S
    | _ => .bad
  | _, _ => .bad
def mIE (m : ME) : MI := fun ρ S => (m ρ S).bind asEnm
theorem mi_enm {m : ME} {p tpos : Pos} {elts : List Expr} {kk : Nat} (hg : Gl X "enumerate") (hm : X.mg "enumerate" = none) (ha : PE X e (tM (G.mk X.K cls) E m)) (hs0 : starEach [e] X.env = (false, eval e X.env) :: starEach [] X.env := by rfl) (hs : starEach [e] X.env = [(false, eval e X.env)] := by rfl) :
    PI X (.Tuple elts kk tpos) (.Call (.Name "enumerate" p) [e] [] pos) (tMI (G.mk X.K cls) E (mIE m)) := by
  refine piI (pi_enum hg hm (pa_cons ha pa_nil hs0) hs) ?_
  rintro σ H R ⟨F, α, ρ, S, at_, p⟩
  refine ⟨F, α, ρ, S, at_, post_mono (post_bind p) fun α1 S1 H1 d e1 p1 r1 q v rv => ?_⟩
  unfold asEnm at q
  split at q
  · cases rv with
    | ref hn =>
      split at q
      · rename_i ds hg
        obtain ⟨vs, hv, rvs⟩ := r1.at hg hn
        exact ⟨_, vs, rfl, SqL.of hv, post_ok (E := E) q r1 _ (itOk_enm hn)⟩
      · exact False.elim q
  · exact False.elim q
def asZip : D → D → Store → R IT
  | .ref n, .ref m, S => match S.get n, S.get m with
    | some (.lst _), some (.lst _) => .ok (.zip n m) S
    | _, _ => .bad
  | _, _, _ => .bad
def mIZ (m n : ME) : MI := fun ρ S => (m ρ S).bind fun d S1 => (n ρ S1).bind fun e S2 => asZip d e S2
theorem mi_zip {e2 : Expr} {m n : ME} {p tpos : Pos} {elts : List Expr} {kk : Nat} (hg : Gl X "zip") (hm : X.mg "zip" = none) (ha : PE X e (tM (G.mk X.K cls) E m)) (hb : PE X e2 (tM (G.mk X.K cls) E n)) (hs1 : starEach [e2] X.env = (false, eval e2 X.env) :: starEach [] X.env := by rfl)
    (hs : starEach [e, e2] X.env = (false, eval e X.env) :: starEach [e2] X.env := by rfl) (hpl : (backTo pos (starEach [e2] X.env)).any (·.1) = false := by rfl) :
    PI X (.Tuple elts kk tpos) (.Call (.Name "zip" p) [e, e2] [] pos) (tMI (G.mk X.K cls) E (mIZ m n)) := by
  refine piI (pi_zip hg hm (pa_cons ha (pa_cons hb pa_nil hs1) hs) hs hpl) ?_
  rintro σ H R ⟨F, α, ρ, S, at_, p⟩
  refine ⟨F, α, ρ, S, at_, post_mono (post_bind p) fun α1 S1 H1 d e1 p1 r1 q v rv => ?_⟩
  refine ⟨F, α1, ρ, S1, at_.later e1 p1 r1, post_mono (post_bind q) fun α2 S2 H2 d2 e2 p2 r2 q2 v2 rv2 => ?_⟩
  have rv := rv.mono e2 p2
  unfold asZip at q2
  split at q2
  · cases rv with
    | ref hn =>
      cases rv2 with
      | ref hn2 =>
        split at q2
        · rename_i hg hg2
          obtain ⟨vs, hv, rvs⟩ := r2.at hg hn
          obtain ⟨ws, hw, rws⟩ := r2.at hg2 hn2
          exact ⟨_, _, vs, ws, rfl, SqL.of hv, SqL.of hw, post_ok (E := E) q2 r2 _ (itOk_zip hn hn2)⟩
        · exact False.elim q2
  · exact False.elim q2
/-- a whole number of few digits (said by its size, which a checker's evaluation leaves alone) -/
def smI (i : Int) : Bool := decide (i.natAbs ≤ 1000000000000000000)
theorem smI_ok {i : Int} (h : smI i = true) : -(2 ^ 62) ≤ i ∧ i < 2 ^ 62 := by
  have := of_decide_eq_true h
  omega
/-- range(n), range(a, b) -/
def asRng1 : D → Store → R IT
  | .int j, S => if smI j = true then .ok (.rng 0 j.toNat) S else .bad
  | _, _ => .bad
def asRng2 : D → D → Store → R IT
  | .int i, .int j, S => if smI i = true ∧ smI j = true then .ok (.rng i (j - i).toNat) S else .bad
  | _, _, _ => .bad
def mRng1 (m : ME) : MI := fun ρ S => (m ρ S).bind asRng1
def mRng2 (m n : ME) : MI := fun ρ S => (m ρ S).bind fun d S1 => (n ρ S1).bind fun e S2 => asRng2 d e S2
theorem mi_rng1 {m : ME} {p : Pos} (hg : Gl X "range") (hm : X.mg "range" = none) (ha : PE X a (tM (G.mk X.K cls) E m)) (hs0 : starEach [a] X.env = (false, eval a X.env) :: starEach [] X.env := by rfl) (hs : starEach [a] X.env = [(false, eval a X.env)] := by rfl) :
    PI X tg (.Call (.Name "range" p) [a] [] pos) (tMI (G.mk X.K cls) E (mRng1 m)) := by
  refine piI (pi_range1 hg hm (pa_cons ha pa_nil hs0) hs) ?_
  rintro σ H R ⟨F, α, ρ, S, at_, pp⟩
  refine ⟨F, α, ρ, S, at_, post_mono (post_bind pp) fun α1 S1 H1 d e1 p1 r1 q v rv => ?_⟩
  cases rv with
  | int j =>
    obtain ⟨h0, q⟩ := post_if (X := X) (cls := cls) q
    obtain ⟨h1, h2⟩ := smI_ok h0
    exact ⟨j, rfl, h1, h2, post_ok (E := E) q r1 _ itOk_rng⟩
  | non => exact False.elim q
  | bl _ => exact False.elim q
  | str _ => exact False.elim q
  | ref _ => exact False.elim q
  | tup _ _ => exact False.elim q
  | rl _ _ => exact False.elim q
theorem mi_rng2 {m n : ME} {p : Pos} (hg : Gl X "range") (hm : X.mg "range" = none) (ha : PE X a (tM (G.mk X.K cls) E m)) (hb : PE X b (tM (G.mk X.K cls) E n)) (hs0 : starEach [a, b] X.env = (false, eval a X.env) :: starEach [b] X.env := by rfl) (hs1 : starEach [b] X.env = (false, eval b X.env) :: starEach [] X.env := by rfl)
    (hs : starEach [a, b] X.env = [(false, eval a X.env), (false, eval b X.env)] := by rfl) (hs2 : starEach [b] X.env = [(false, eval b X.env)] := by rfl) :
    PI X tg (.Call (.Name "range" p) [a, b] [] pos) (tMI (G.mk X.K cls) E (mRng2 m n)) := by
  refine piI (pi_range2 hg hm (pa_cons ha (pa_cons hb pa_nil hs1) hs0) hs hs2) ?_
  rintro σ H R ⟨F, α, ρ, S, at_, pp⟩
  refine ⟨F, α, ρ, S, at_, post_mono (post_bind pp) fun α1 S1 H1 d e1 p1 r1 q v rv => ?_⟩
  refine ⟨F, α1, ρ, S1, at_.later e1 p1 r1, post_mono (post_bind q) fun α2 S2 H2 d2 e2 p2 r2 q2 v2 rv2 => ?_⟩
  cases rv with
  | int i =>
    cases rv2 with
    | int j =>
      obtain ⟨⟨h0, h00⟩, q2⟩ := post_if (X := X) (cls := cls) q2
      obtain ⟨h1, h2⟩ := smI_ok h0
      obtain ⟨h3, h4⟩ := smI_ok h00
      exact ⟨i, j, rfl, ⟨h1, h2, h3, h4⟩, post_ok (E := E) q2 r2 _ itOk_rng⟩
    | non => exact False.elim q2
    | bl _ => exact False.elim q2
    | str _ => exact False.elim q2
    | ref _ => exact False.elim q2
    | tup _ _ => exact False.elim q2
    | rl _ _ => exact False.elim q2
  | non => exact False.elim q2
  | bl _ => exact False.elim q2
  | str _ => exact False.elim q2
  | ref _ => exact False.elim q2
  | tup _ _ => exact False.elim q2
  | rl _ _ => exact False.elim q2

/-! ### list comprehensions: one for, one test -/
/-- a target whose names are the comprehension's own -/
def GOwn (X : Cx) (cls : Str → Addr) (E : XK) (vs : List Nat) (g : TG) (mg : MG) : Prop :=
  ∀ F α ρ S σ H v d Q, At ⟨X.K, cls⟩ F σ H α ρ S → RV X.K α H v d → post ⟨X.K, cls⟩ F α H (mg d ρ S) (fun α' _ H' ρ' => ∀ σ', RE X.K α' H' σ' ρ' → L2.wipe σ' vs = L2.wipe σ vs → Q σ' H') E → g v σ H Q
theorem wipe_set {σ : L2.St} {i : Nat} {o : Option V} : ∀ {vs : List Nat}, i ∈ vs → L2.wipe (σ.set i o) vs = L2.wipe σ vs
  | [], h => by cases h
  | v :: vs, h => by
    unfold L2.wipe
    by_cases e : i = v
    · subst e
      by_cases hm : i ∈ vs
      · rw [wipe_set hm]
      · have aux : ∀ ws : List Nat, i ∉ ws → (L2.wipe (σ.set i o) ws) = (L2.wipe σ ws).set i o := by
          intro ws
          induction ws with
          | nil => intro _; rfl
          | cons w ws ih =>
            intro hw
            unfold L2.wipe
            rw [ih fun z => hw (List.mem_cons_of_mem _ z)]
            exact List.set_comm _ _ fun z => hw (z ▸ List.mem_cons_self ..)
        rw [aux vs hm, List.set_set]
    · rcases List.mem_cons.mp h with z | z
      · exact absurd z e
      · rw [wipe_set z]
theorem wipe_wipe {σ : L2.St} : ∀ {vs : List Nat}, L2.wipe (L2.wipe σ vs) vs = L2.wipe σ vs := by
  intro vs
  have aux : ∀ ws : List Nat, (∀ w ∈ ws, w ∈ vs) → L2.wipe (L2.wipe σ ws) vs = L2.wipe σ vs := by
    intro ws
    induction ws with
    | nil => intro _; rfl
    | cons w ws ih =>
      intro h
      show L2.wipe ((L2.wipe σ ws).set w none) vs = _
      rw [wipe_set (h w (List.mem_cons_self ..)), ih fun z hz => h z (List.mem_cons_of_mem _ hz)]
  exact aux vs fun _ h => h
theorem gown_name {vs : List Nat} (i : Nat) (h : i ∈ vs) : GOwn X cls E vs (gName i) (mGN i) := by
  intro F α ρ S σ H v d Q at_ rv p
  exact post_ok (E := E) p at_.rep _ (at_.re.set rv i) (wipe_set h)
def gNames : List Nat → TGs
  | [] => gNil
  | i :: is => gCons (gName i) (gNames is)
def mGNs : List Nat → MGs
  | [] => mGNil
  | i :: is => mGCons (mGN i) (mGNs is)
theorem gown_names {vs : List Nat} : ∀ (is : List Nat), (∀ i ∈ is, i ∈ vs) → ∀ F α ρ S σ H ws ds Q, At (G.mk X.K cls) F σ H α ρ S → RVs X.K α H ws ds → post (G.mk X.K cls) F α H (mGNs is ds ρ S) (fun α' _ H' ρ' => ∀ σ', RE X.K α' H' σ' ρ' → L2.wipe σ' vs = L2.wipe σ vs → Q σ' H') E → gNames is ws σ H Q
  | [], h, F, α, ρ, S, σ, H, ws, ds, Q, at_, rv, p => by
    cases rv with
    | nil => exact ⟨rfl, post_ok (E := E) p at_.rep _ at_.re rfl⟩
    | cons _ _ => exact False.elim p
  | i :: is, h, F, α, ρ, S, σ, H, ws, ds, Q, at_, rv, p => by
    cases rv with
    | nil => exact False.elim p
    | cons r rs =>
      refine ⟨_, _, rfl, ?_⟩
      refine gown_names is (fun j hj => h j (List.mem_cons_of_mem _ hj)) F α _ S _ H _ _ Q ⟨at_.rep, at_.re.set r i⟩ rs (post_mono p fun α' S' H' b _ _ _ q σ' re' hw => ?_)
      exact q σ' re' (by rw [hw]; exact wipe_set (h i (List.mem_cons_self ..)))
theorem gown_tup {vs : List Nat} (is : List Nat) (n : Nat) (h : ∀ i ∈ is, i ∈ vs) : GOwn X cls E vs (gTup X.K n (gNames is)) (mGT n (mGNs is)) := by
  intro F α ρ S σ H v d Q at_ rv p
  unfold mGT at p
  cases rv with
  | tup ht hs =>
    obtain ⟨hl, p⟩ := post_if p
    exact ⟨_, _, rfl, ht.sq, by rw [hs.length]; exact hl, gown_names is h _ _ _ _ _ _ _ _ _ at_ hs p⟩
  | non => exact False.elim p
  | bl _ => exact False.elim p
  | int _ => exact False.elim p
  | str _ => exact False.elim p
  | ref _ => exact False.elim p
  | rl _ _ => exact False.elim p
def mYes : MT := fun _ S => .ok true S
/-- what the turns from i on make -/
def mLcL (j : IT) (g : MG) (t : MT) (m : ME) (ρ : Env) : Nat → Nat → Store → R (List D)
  | 0, _, _ => .bad
  | n + 1, i, S => match j.at i S with
    | none => .bad
    | some none => .ok [] S
    | some (some d) => (g d ρ S).bind fun ρ1 S1 => (t ρ1 S1).bind fun b S2 =>
      if b = true then (m ρ1 S2).bind fun y S3 => if fits i = true then (mLcL j g t m ρ n (i + 1) S3).bind fun ys S4 => .ok (y :: ys) S4 else .bad
      else mLcL j g t m ρ n (i + 1) S2
def mLc (mi : MI) (vs : List Nat) (g : MG) (t : MT) (m : ME) : MAs := fun ρ S => (mi ρ S).bind fun j S1 => (mLcL j g t m (wipeE ρ vs) (j.fuel S1) 0 S1).calm
theorem calm_bind {β γ : Type} {r : R β} {k : β → Store → R γ} : (r.bind k).calm = r.calm.bind fun b S => (k b S).calm := by cases r <;> rfl
theorem lc_reads {wi : TI} {mi : MI} {vs : List Nat} {g : TG} {mg : MG} {tt : TT} {mt : MT} {te : TE} {me : ME} (hi : ∀ σ H R, tMI (G.mk X.K cls) E mi σ H R → wi σ H R) (hg : GOwn X cls E0 vs g mg) (ht : ∀ σ H Q, tMT (G.mk X.K cls) E0 mt σ H Q → tt σ H Q) (he : ∀ σ H Q, tM (G.mk X.K cls) E0 me σ H Q → te σ H Q) :
    ∀ σ H Q, tML (G.mk X.K cls) E (mLc mi vs mg mt me) σ H Q → tLc wi g tt te vs σ H Q := by
  rintro σ H Q ⟨F, α, ρ, S, at_, p⟩
  refine hi σ H _ ⟨F, α, ρ, S, at_, post_mono (post_bind p) fun α1 S1 H1 j e1 p1 r1 q J hJ D hD => ?_⟩
  have at1 := at_.later e1 p1 r1
  have q := post_calm (E' := E0) q
  let W : Nat → Nat → Hp → Prop := fun i n H' => ∃ α' S' acc accV, Ext H1 H' ∧ α1 <+: α' ∧ Rep (G.mk X.K cls) F α' S' H' ∧ H' D = some (.lst accV) ∧ D ∉ α' ∧ (∀ q ∈ F, q.1 ≠ D) ∧ RVs X.K α' H' accV acc ∧ acc.length ≤ i ∧
    post (G.mk X.K cls) F α' H' (mLcL j mg mt me (wipeE ρ vs) n i S') (fun α2 S2 H2 ys => ∀ ws, H2 D = some (.lst ws) → D ∉ α2 → RVs X.K α2 H2 ws (acc ++ ys) → Q (.ref D) H2) E0
  have hF : ∀ q ∈ F, q.1 ≠ D := fun q hq => ne_of_none (r1.pin q hq).1 hD
  refine ⟨W, ⟨_, α1, S1, [], [], Ext.new hD _, List.prefix_refl _, r1.beside hD _, upd_same, r1.notin hD, hF, .nil, Nat.le_refl _, post_mono (post_later q (Ext.new hD _) (List.prefix_refl _)) fun α2 S2 H2 ys e2 p2 r2 q2 ws hw hn rw' => q2 D ws hw hn hF rw'⟩, ?_⟩
  rintro i n H2 ⟨α2, S2, acc, accV, ex, px, r2, h2, n2, _, rv2, hl, q2⟩
  cases n with
  | zero => exact False.elim q2
  | succ n =>
    unfold mLcL at q2
    have hj := hJ i F α2 S2 H2 ((Ext.refl _).trans ex) px r2
    cases hat : j.at i S2 with
    | none => rw [hat] at q2; exact False.elim q2
    | some o =>
      rw [hat] at q2
      cases o with
      | none => exact .inl ⟨hj.1 hat, post_ok (E := E0) q2 r2 accV h2 n2 (by rw [List.append_nil]; exact rv2)⟩
      | some d =>
        obtain ⟨go, hy⟩ := hj.2 d hat
        refine .inr ⟨go, W (i + 1) n, fun H' h => ⟨n, Nat.lt_succ_self _, h⟩, fun x H3 y => ?_⟩
        obtain ⟨s3, r3, rv3⟩ := hy x H3 y
        have e3 := Ext.ofSame s3
        have h3 := s3 _ _ h2
        have q3 := post_later q2 e3 (List.prefix_refl _)
        have re3 : RE X.K α2 H3 (L2.wipe σ vs) (wipeE ρ vs) := (at1.re.mono (ex.trans e3) px).wipe vs
        have R3 : Rep (G.mk X.K cls) ((D, .lst accV) :: F) α2 S2 H3 := r3.hold h3 n2
        have sub : ∀ q ∈ F, q ∈ (D, HO.lst accV) :: F := fun q hq => List.mem_cons_of_mem _ hq
        refine hg ((D, .lst accV) :: F) α2 (wipeE ρ vs) S2 (L2.wipe σ vs) H3 x d _ ⟨R3, re3⟩ rv3 (post_mono (post_held (post_bind q3) sub) fun α4 S4 H4 ρ4 e4 p4 r4 q4 σ4 re4 hw4 => ⟨by rw [hw4]; exact wipe_wipe, ?_⟩)
        refine ht σ4 H4 _ ⟨(D, .lst accV) :: F, α4, ρ4, S4, ⟨r4, re4⟩, post_mono (post_held (post_bind q4) sub) fun α5 S5 H5 b e5 p5 r5 q5 => ?_⟩
        have ex5 := ((ex.trans e3).trans e4).trans e5
        have px5 := (px.trans p4).trans p5
        refine if_reads q5 (fun q5 => ?_) fun q5 => ?_
        · refine he σ4 H5 _ ⟨(D, .lst accV) :: F, α5, ρ4, S5, ⟨r5, re4.mono e5 p5⟩, post_mono (post_held (post_bind q5) sub) fun α6 S6 H6 y6 e6 p6 r6 q6 v6 rv6 => ?_⟩
          obtain ⟨hf, q6⟩ := post_fits (X := X) (cls := cls) q6
          obtain ⟨h6, n6⟩ := r6.pin _ (List.mem_cons_self ..)
          have r6' : Rep (G.mk X.K cls) F α6 S6 H6 := r6.loose sub
          have lenV : accV.length = acc.length := rv2.length
          refine ⟨accV, h6, ?_, ?_⟩
          · have := fits_lt hf
            omega
          · have eu := Ext.upd h6 (by exact trivial) (HO.lst (accV ++ [v6]))
            have e26 := ((e3.trans e4).trans e5).trans e6
            have p26 := (p4.trans p5).trans p6
            refine ⟨α6, S6, acc ++ [y6], accV ++ [v6], (ex5.trans e6).trans eu, px5.trans p6, r6'.besideU n6 hF h6 (by exact trivial) _, upd_same, n6, hF, (RVs.append (rv2.mono e26 p26) (.cons rv6 .nil)).mono eu (List.prefix_refl _), by rw [List.length_append]; show acc.length + 1 ≤ i + 1; omega, ?_⟩
            refine post_mono (post_bind (post_later q6 eu (List.prefix_refl _))) fun α7 S7 H7 ys e7 p7 r7 q7 ws hw hn rw' => ?_
            exact post_ok (E := E0) q7 r7 ws hw hn (by rw [List.append_assoc] at rw'; exact rw')
        · obtain ⟨h5, n5⟩ := r5.pin _ (List.mem_cons_self ..)
          exact ⟨α5, S5, acc, accV, ex5, px5, r5.loose sub, h5, n5, hF, rv2.mono ((e3.trans e4).trans e5) (p4.trans p5), Nat.le_succ_of_le hl, q5⟩
end
end MM

/-! The mirror layer, part E: comprehensions' rules, fields, calls of the program's own. -/
namespace MM
open PySem L2 PyProof.Rows PySem.Spec

section
variable {X : Cx} {cls : Str → Addr} {E : XK} {x : Str} {e a b c o : Expr} {es : List Expr} {pos : Pos} {st : Stmt} {sts : List Stmt} {tg : Expr}

theorem ml_lc {elt tg iter : Expr} {scope : Scope} (own : List (Str × Nat)) {mi : MI} {g : TG} {mg : MG} {me : ME} (hc : X.calm = true) (hN : X.N.Nodup) (ok : BlkOk X.N X.env.scope scope own) (hG : GOwn X cls E0 (own.map (·.2)) g mg)
    (hi : PI X tg iter (tMI (G.mk X.K cls) E mi))
    (hg : ∀ (s : Shared) (H : Hp) (C : Addr) (cl : List (Str × Addr)) (fp : List Addr), PG (X.blk s H scope (compEnvC scope cl C X.env) fp) tg g)
    (he : ∀ (s : Shared) (H : Hp) (C : Addr) (cl : List (Str × Addr)) (fp : List Addr), PE (X.blk s H scope (compEnvC scope cl C X.env) fp) elt (tM (G.mk X.K cls) E0 me)) (hs : ∀ x, foldedSetIterable iter X.env x = pure x := by intro _; rfl) :
    PE X (.ListComp elt [⟨tg, iter, [], 0⟩] scope pos) (tML (G.mk X.K cls) E (mLc mi (own.map (·.2)) mg mYes me)) :=
  peI (pe_lc hc hN hi ok hg (fun _ _ _ _ _ => pts_nil) he hs) (lc_reads (fun _ _ _ h => h) hG (fun σ H Q ⟨F, α, ρ, S, at_, p⟩ => post_ok (E := E0) p at_.rep) fun _ _ _ h => h)
theorem ml_lc1 {elt tg iter t : Expr} {scope : Scope} (own : List (Str × Nat)) {mi : MI} {g : TG} {mg : MG} {mt : MT} {me : ME} (hc : X.calm = true) (hN : X.N.Nodup) (ok : BlkOk X.N X.env.scope scope own) (hG : GOwn X cls E0 (own.map (·.2)) g mg)
    (hi : PI X tg iter (tMI (G.mk X.K cls) E mi))
    (hg : ∀ (s : Shared) (H : Hp) (C : Addr) (cl : List (Str × Addr)) (fp : List Addr), PG (X.blk s H scope (compEnvC scope cl C X.env) fp) tg g)
    (ht : ∀ (s : Shared) (H : Hp) (C : Addr) (cl : List (Str × Addr)) (fp : List Addr), PT (X.blk s H scope (compEnvC scope cl C X.env) fp) t (tMT (G.mk X.K cls) E0 mt))
    (he : ∀ (s : Shared) (H : Hp) (C : Addr) (cl : List (Str × Addr)) (fp : List Addr), PE (X.blk s H scope (compEnvC scope cl C X.env) fp) elt (tM (G.mk X.K cls) E0 me)) (hs : ∀ x, foldedSetIterable iter X.env x = pure x := by intro _; rfl) :
    PE X (.ListComp elt [⟨tg, iter, [t], 0⟩] scope pos) (tML (G.mk X.K cls) E (mLc mi (own.map (·.2)) mg mt me)) :=
  peI (pe_lc hc hN hi ok hg (fun s H C cl fp => pts_one (ht s H C cl fp)) he hs) (lc_reads (fun _ _ _ h => h) hG (fun _ _ _ h => h) fun _ _ _ h => h)
/-- y = [.. for ..] -/
theorem set_reads {t : TE} {ml : MAs} {i : Nat} (h : ∀ σ H Q, tML (G.mk X.K cls) E ml σ H Q → t σ H Q) : ∀ C σ H, tMS (G.mk X.K cls) E (mAsg (mNew ml) (mGN i)) C σ H → tAsg t (gName i) C σ H := by
  rintro C σ H ⟨F, α, ρ, S, at_, p⟩
  refine h σ H _ ⟨F, α, ρ, S, at_, post_mono (post_bind (post_bind p)) fun α1 S1 H1 ds e1 p1 r1 q pp vs hp hn hF rvs => ?_⟩
  have pr : α1 <+: α1 ++ [pp] := List.prefix_append _ _
  have rp : Rep (G.mk X.K cls) F (α1 ++ [pp]) (S1.push (.lst ds)) H1 := r1.push hn hF ⟨vs, hp, rvs.mono (Ext.refl _) pr⟩
  refine post_ok (E := E) (q (α1 ++ [pp]) H1 (Ext.refl _) pr rp) rp _ ((at_.re.mono e1 (p1.trans pr)).set (.ref ?_) i)
  rw [← r1.len]
  simp
theorem ms_setLc {i : Nat} {y : Str} {py spos : Pos} {elt tg iter : Expr} {scope : Scope} (own : List (Str × Nat)) {mi : MI} {g : TG} {mg : MG} {me : ME} (hc : X.calm = true) (hN : X.N.Nodup) (hy : X.N[i]? = some y) (hyl : X.env.scope.names.lookup y = some .local)
    (hsw : swapsWith (.ListComp elt [⟨tg, iter, [], 0⟩] scope pos) (some (.Name y py)) spos.line X.env = pure true) (ok : BlkOk X.N X.env.scope scope own) (hG : GOwn X cls E0 (own.map (·.2)) g mg)
    (hi : PI X tg iter (tMI (G.mk X.K cls) E mi))
    (hg : ∀ (s : Shared) (H : Hp) (C : Addr) (cl : List (Str × Addr)) (fp : List Addr), PG (X.blk s H scope (compEnvC scope cl C X.env) fp) tg g)
    (he : ∀ (s : Shared) (H : Hp) (C : Addr) (cl : List (Str × Addr)) (fp : List Addr), PE (X.blk s H scope (compEnvC scope cl C X.env) fp) elt (tM (G.mk X.K cls) E0 me)) (hs : ∀ x, foldedSetIterable iter X.env x = pure x := by intro _; rfl) :
    PS X (.Assign [.Name y py] (.ListComp elt [⟨tg, iter, [], 0⟩] scope pos) spos) (tMS (G.mk X.K cls) E (mAsg (mNew (mLc mi (own.map (·.2)) mg mYes me)) (mGN i))) :=
  psI (ps_setLc hc hN hy hyl hsw hi ok hg (fun _ _ _ _ _ => pts_nil) he hs) (set_reads (lc_reads (fun _ _ _ h => h) hG (fun σ H Q ⟨F, α, ρ, S, at_, p⟩ => post_ok (E := E0) p at_.rep) fun _ _ _ h => h))
theorem ms_setLc1 {i : Nat} {y : Str} {py spos : Pos} {elt tg iter t : Expr} {scope : Scope} (own : List (Str × Nat)) {mi : MI} {g : TG} {mg : MG} {mt : MT} {me : ME} (hc : X.calm = true) (hN : X.N.Nodup) (hy : X.N[i]? = some y) (hyl : X.env.scope.names.lookup y = some .local)
    (hsw : swapsWith (.ListComp elt [⟨tg, iter, [t], 0⟩] scope pos) (some (.Name y py)) spos.line X.env = pure true) (ok : BlkOk X.N X.env.scope scope own) (hG : GOwn X cls E0 (own.map (·.2)) g mg)
    (hi : PI X tg iter (tMI (G.mk X.K cls) E mi))
    (hg : ∀ (s : Shared) (H : Hp) (C : Addr) (cl : List (Str × Addr)) (fp : List Addr), PG (X.blk s H scope (compEnvC scope cl C X.env) fp) tg g)
    (ht : ∀ (s : Shared) (H : Hp) (C : Addr) (cl : List (Str × Addr)) (fp : List Addr), PT (X.blk s H scope (compEnvC scope cl C X.env) fp) t (tMT (G.mk X.K cls) E0 mt))
    (he : ∀ (s : Shared) (H : Hp) (C : Addr) (cl : List (Str × Addr)) (fp : List Addr), PE (X.blk s H scope (compEnvC scope cl C X.env) fp) elt (tM (G.mk X.K cls) E0 me)) (hs : ∀ x, foldedSetIterable iter X.env x = pure x := by intro _; rfl) :
    PS X (.Assign [.Name y py] (.ListComp elt [⟨tg, iter, [t], 0⟩] scope pos) spos) (tMS (G.mk X.K cls) E (mAsg (mNew (mLc mi (own.map (·.2)) mg mt me)) (mGN i))) :=
  psI (ps_setLc hc hN hy hyl hsw hi ok hg (fun s H C cl fp => pts_one (ht s H C cl fp)) he hs) (set_reads (lc_reads (fun _ _ _ h => h) hG (fun _ _ _ h => h) fun _ _ _ h => h))
/-- a, b = x, y -/
def mPar (i j : Nat) (m n : ME) : MS := fun ρ S => (m ρ S).bind fun d S1 => (n ρ S1).bind fun e S2 => .ok (.nx ((ρ.set i (some d)).set j (some e))) S2
theorem ms_par {i j : Nat} {x y : Str} {m n : ME} {px py pt : Pos} {kt k2 pt2} (hc : X.calm = true) (hN : X.N.Nodup) (hi : X.N[i]? = some x) (hj : X.N[j]? = some y) (hij : i ≠ j)
    (hx : X.env.scope.names.lookup x = some .local) (hy : X.env.scope.names.lookup y = some .local)
    (hw : swappedStores [.Tuple [.Name x px, .Name y py] kt pt] (.Tuple [a, b] k2 pt2) X.env = pure (some [x, y])) (ha : PE X a (tM (G.mk X.K cls) E m)) (hb : PE X b (tM (G.mk X.K cls) E n))
    (hs0 : starEach [a, b] X.env = (false, eval a X.env) :: starEach [b] X.env := by rfl) (hs1 : starEach [b] X.env = (false, eval b X.env) :: starEach [] X.env := by rfl)
    (hs : swapsWithSole [.Tuple [.Name x px, .Name y py] kt pt] (.Tuple [a, b] k2 pt2) pos.line X.env = pure false := by rfl) :
    PS X (.Assign [.Tuple [.Name x px, .Name y py] kt pt] (.Tuple [a, b] k2 pt2) pos) (tMS (G.mk X.K cls) E (mPar i j m n)) := by
  refine psI (ps_par hc hN hi hj hij hx hy (pa_cons ha (pa_cons hb pa_nil hs1) hs0) hw hs) ?_
  rintro C σ H ⟨F, α, ρ, S, at_, p⟩
  refine ⟨F, α, ρ, S, at_, post_mono (post_bind p) fun α1 S1 H1 d e1 p1 r1 q v rv => ?_⟩
  refine ⟨F, α1, ρ, S1, at_.later e1 p1 r1, post_mono (post_bind q) fun α2 S2 H2 d2 e2 p2 r2 q2 v2 rv2 => ?_⟩
  exact ⟨v, v2, rfl, post_ok (E := E) q2 r2 _ (((at_.re.mono (e1.trans e2) (p1.trans p2)).set (rv.mono e2 p2) i).set rv2 j)⟩

/-! ### fields -/
theorem RFs.look {κ : Type} [BEq κ] {K : PySem.W.Frag} {α : List Addr} {H : Hp} {f : κ} : ∀ {vs : List (κ × V)} {ds : List (κ × D)} {d : D}, RFs κ K α H vs ds → ds.lookup f = some d → ∃ v, vs.lookup f = some v ∧ RV K α H v d
  | _, _, _, .nil, h => by cases h
  | _, _, _, .cons (f := g) r rs, h => by
    rw [List.lookup_cons] at h ⊢
    by_cases c : (f == g) = true
    · simp only [c] at h ⊢
      cases h
      exact ⟨_, rfl, r⟩
    · simp only [c] at h ⊢
      exact RFs.look rs h
theorem RFs.lookN {κ : Type} [BEq κ] {K : PySem.W.Frag} {α : List Addr} {H : Hp} {f : κ} : ∀ {vs : List (κ × V)} {ds : List (κ × D)}, RFs κ K α H vs ds → ds.lookup f = none → vs.lookup f = none
  | _, _, .nil, h => rfl
  | _, _, .cons (f := g) r rs, h => by
    rw [List.lookup_cons] at h ⊢
    by_cases c : (f == g) = true
    · simp only [c] at h
      cases h
    · simp only [c] at h ⊢
      exact RFs.lookN rs h
/-- the field f of what d stands for, an instance of one of the classes cs -/
def getF (cs : List Str) (f : Str) : D → Store → R D
  | .ref n, S => match S.get n with
    | some (.ins c fs) => if c ∈ cs then match fs.lookup f with
      | some d => .ok d S
      | none => .bad else .bad
    | _ => .bad
  | _, _ => .bad
def mFld (cs : List Str) (f : Str) (m : ME) : ME := fun ρ S => (m ρ S).bind (getF cs f)
/-- what holds of the classes cs and the name f -/
def FOk (K : PySem.W.Frag) (cls : Str → Addr) (cs : List Str) (f : Str) : Prop := ∀ c ∈ cs, Cls K (cls c) ∧ NoAttr K (cls c) f
theorem me_fld {f : Str} {cs : List Str} {m : ME} (hk : FOk X.K cls cs f) (h : PE X e (tM (G.mk X.K cls) E m)) (hb : attributeBase e f X.env (eval e X.env) = eval e X.env := by rfl) : PE X (.Attribute e f pos) (tM (G.mk X.K cls) E (mFld cs f m)) := by
  refine peI (pe_fld h hb) ?_
  rintro σ H Q ⟨F, α, ρ, S, at_, p⟩
  refine ⟨F, α, ρ, S, at_, post_mono (post_bind p) fun α1 S1 H1 d e1 p1 r1 q v rv => ?_⟩
  unfold getF at q
  split at q
  · rename_i n
    split at q
    · rename_i c fs hg
      obtain ⟨hc, q⟩ := post_if (X := X) (cls := cls) q
      split at q
      · rename_i w hl
        cases rv with
        | ref hn =>
          obtain ⟨dx, vfs, ha, rf⟩ := r1.at hg hn
          obtain ⟨v, hv, rv⟩ := rf.look hl
          exact ⟨_, _, dx, vfs, v, rfl, ha, (hk c hc).1, (hk c hc).2, hv, post_ok (E := E) q r1 v rv⟩
      · exact False.elim q
    · exact False.elim q
  · exact False.elim q
/-- o.f = .. -/
def gFld (K : PySem.W.Frag) (ta : TE) (f : Str) : TG := fun y σ H Q => ta σ H fun x H2 => ∃ a C dx fs, x = .ref a ∧ H2 a = some (.ins C dx fs) ∧ Cls K C ∧ NoAttr K C f ∧ fs.length < 1000 ∧ Q σ (upd H2 a (.ins C dx (putF f y fs)))
theorem pg_fld {f : Str} {ta : TE} (ho : PE X o ta) (ha : ∀ v, assign (.Attribute o f pos) X.env v = (do
      let ov ← holding [v] (eval o X.env)
      standAt pos.atName
      holding [v, ov] (setAttr ov f v)
      release [v, ov] []) := by intro _; rfl) : PG X (.Attribute o f pos) (gFld X.K ta f) := by
  refine ⟨fun pins s σ H v u Q I r h => ?_⟩
  rw [ha]
  refine wpAny_bind (wpAny_holding (thn (ho.run pins s σ H _ I h) fun ov s1 ⟨x, H1, I1, r1, a, C, dx, fs, ex, ea, c, n, l, q⟩ => ?_))
  subst ex
  obtain rfl : ov = Value.ref a := r1
  refine wpAny_bind (wpAny_standAt (wpAny_bind (wpAny_holding (setattr_ok I1 ea c n l r fun s2 I2 => ?_))))
  exact wpAny_release ⟨σ, _, I2, q⟩
def putD (f : Str) (v : D) : List (Str × D) → List (Str × D)
  | [] => [(f, v)]
  | (g, w) :: r => if g = f then (g, v) :: r else (g, w) :: putD f v r
theorem RFs.put {K : PySem.W.Frag} {α : List Addr} {H : Hp} {f : Str} {v : V} {d : D} (r : RV K α H v d) : ∀ {vs : List (Str × V)} {ds : List (Str × D)}, RFs Str K α H vs ds → RFs Str K α H (putF f v vs) (putD f d ds)
  | _, _, .nil => .cons r .nil
  | _, _, .cons (f := g) q rs => by
    unfold putF putD
    by_cases c : g = f
    · rw [if_pos c, if_pos c]
      exact .cons r rs
    · rw [if_neg c, if_neg c]
      exact .cons q (RFs.put r rs)
def setF (cs : List Str) (f : Str) (v : D) : D → Store → R Unit
  | .ref n, S => match S.get n with
    | some (.ins c fs) => if c ∈ cs ∧ fs.length < 1000 then .ok () (S.set n (.ins c (putD f v fs))) else .bad
    | _ => .bad
  | _, _ => .bad
def mGFld (cs : List Str) (f : Str) (m : ME) : MG := fun v ρ S => (m ρ S).bind fun o S1 => (setF cs f v o S1).bind fun _ S2 => .ok ρ S2
theorem mg_fld {f : Str} {cs : List Str} {m : ME} (hk : FOk X.K cls cs f) (h : PE X o (tM (G.mk X.K cls) E m)) (ha : ∀ v, assign (.Attribute o f pos) X.env v = (do
      let ov ← holding [v] (eval o X.env)
      standAt pos.atName
      holding [v, ov] (setAttr ov f v)
      release [v, ov] []) := by intro _; rfl) : PG X (.Attribute o f pos) (tMG (G.mk X.K cls) E (mGFld cs f m)) := by
  refine pgI (pg_fld h ha) ?_
  rintro v σ H Q ⟨F, α, ρ, S, d, at_, rv, p⟩
  refine ⟨F, α, ρ, S, at_, post_mono (post_bind p) fun α1 S1 H1 d1 e1 p1 r1 q v1 rv1 => ?_⟩
  unfold setF at q
  split at q
  · rename_i n
    split at q
    · rename_i c fs hg
      by_cases hc : c ∈ cs ∧ fs.length < 1000
      · rw [if_pos hc] at q
        have q := post_bind q
        cases rv1 with
        | ref hn =>
          rename_i aa
          obtain ⟨dx, vfs, ha, rf⟩ := r1.at hg hn
          refine ⟨aa, _, dx, vfs, rfl, ha, (hk c hc.1).1, (hk c hc.1).2, by rw [rf.length]; exact hc.2, ?_⟩
          have eu := Ext.upd ha (by exact trivial) (HO.ins (cls c) dx (putF f v vfs))
          have rp : Rep (G.mk X.K cls) F α1 (S1.set n (.ins c (putD f d fs))) (upd H1 aa (.ins (cls c) dx (putF f v vfs))) :=
            r1.set hn ha ⟨dx, _, upd_same, ((rf.put (rv.mono e1 p1)).mono eu (List.prefix_refl _))⟩
          exact post_ok (E := E) (q α1 _ eu (List.prefix_refl _) rp) rp σ ((at_.re.mono e1 p1).mono eu (List.prefix_refl _))
      · rw [if_neg hc] at q
        exact False.elim q
    · exact False.elim q
  · exact False.elim q
end

/-! ### what a def promises -/
/-- a def's promise: its Lean function -/
def spM (K : PySem.W.Frag) (cls : Str → Addr) (m : List D → Store → R D) : Sp := fun vs H Q E => ∃ F α S ds, Rep ⟨K, cls⟩ F α S H ∧ RVs K α H vs ds ∧ post ⟨K, cls⟩ F α H (m ds S) (CV ⟨K, cls⟩ Q) E
/-- a def's function from its body: n parameters, N names -/
def mDef (n N : Nat) (b : MS) : List D → Store → R D := fun ds S => if ds.length = n then (b (ds.map some ++ List.replicate (N - n) none) S).bind fun f S1 => match f with
  | .nx _ => .ok .non S1
  | .rt d => .ok d S1
  | _ => .bad else .bad
/-- as FnOk, where no repr is under way -/
structure FnG (P : Program) (w : World) (K : PySem.W.Frag) (mg : Str → Option Value) (base : Heap) (k : Nat) (f : Addr) (fd : FuncData) (ps : List Str) (sp : Sp) : Prop where
  len : ∀ vs H Q E, sp vs H Q E → vs.length = ps.length
  run : ∀ (A : Around) (outer : List PySem.Env) (s : Shared) (H : Hp) (args : Args) (us : List Value) (vs : List V) (Q : VK) (E : XK), Room k A → A.guards = some [] → Env0 P w K mg base A outer s H → BindsTo s fd args (ps.zip us) → Vals vs us → sp vs H Q E →
    codeAny (model P w) A (.call (.ref f) args) (CR (L2.CX P w) outer P w H s Q E) s
theorem FnG.mono {P : Program} {w : World} {K : PySem.W.Frag} {mg : Str → Option Value} {base : Heap} {j k : Nat} {f : Addr} {fd : FuncData} {ps : List Str} {sp : Sp} (F : FnG P w K mg base j f fd ps sp) (h : j ≤ k) : FnG P w K mg base k f fd ps sp :=
  ⟨F.len, fun A outer s H args us vs Q E hr => F.run A outer s H args us vs Q E (hr.mono h)⟩
theorem re_start {K : PySem.W.Frag} {α : List Addr} {H : Hp} {N : List Str} {vs : List V} {ds : List D} (r : RVs K α H vs ds) : RE K α H (L2.start N vs) (ds.map some ++ List.replicate (N.length - ds.length) none) := by
  unfold L2.start
  refine ⟨by simp [r.length], fun i d h => ?_⟩
  by_cases c : i < ds.length
  · rw [List.getElem?_append_left (by simpa using c), List.getElem?_map] at h
    cases hd : ds[i]? with
    | none => rw [hd] at h; cases h
    | some d' =>
      rw [hd] at h
      cases h
      obtain ⟨v, hv, rv⟩ := r.get hd
      refine ⟨v, ?_, rv⟩
      rw [List.getElem?_append_left (by simpa [r.length] using c), List.getElem?_map, hv]
      rfl
  · rw [List.getElem?_append_right (by simpa using c), List.getElem?_replicate] at h
    split at h <;> cases h
/-- THE RULE for a def: its body's function is its function -/
theorem fn_m {P : Program} {w : World} {K : PySem.W.Frag} {mg : Str → Option Value} {base : Heap} {cls : Str → Addr} {x qual : Str} {st : Stmt} {f : Addr} {fd : FuncData} {N ps : List Str} {k : Nat} {b : MS} (Fn : Fun K x qual st f fd) (S : FnScope N ps (defScope st))
    (hbody : ∀ (cdv : Value) (A : Around) (outer : List PySem.Env) (s : Shared) (H : Hp) (E : XK), Room k (A.deeper (envOfC qual (defScope st) s.heap.objs.size f cdv)) → (A.deeper (envOfC qual (defScope st) s.heap.objs.size f cdv)).guards = some [] →
      PSs (cxOf (L2.CX P w) P w K mg base N qual (defScope st) f cdv A outer s H E) (defBody st) (tMS ⟨K, cls⟩ E b)) : FnG P w K mg base (k + 1) f fd ps (spM K cls (mDef ps.length N.length b)) := by
  have lenM : ∀ vs H Q E, spM K cls (mDef ps.length N.length b) vs H Q E → vs.length = ps.length := by
    rintro vs H Q E ⟨F, α, S0, ds, rp, rv, p⟩
    unfold mDef at p
    by_cases h : ds.length = ps.length
    · rw [rv.length]; exact h
    · rw [if_neg h] at p; exact False.elim p
  obtain ⟨oc, od, kV, doc, pm, an, cdv, ct, osl, rfl, lk, hcd⟩ := Fn.ex
  refine ⟨lenM, fun A outer s H args us vs Q E hr hgd e0 hb r hsp => ?_⟩
  have hl := lenM _ _ _ _ hsp
  have KX : K.In s.heap := e0.mod.kin.keeps fun b o q => (e0.bs b o q).1
  have nl : s.heap.NoLimit := e0.mod.nolimit.keeps fun b o q => (e0.bs b o q).1
  have kinds : ∀ y ∈ ps.zip us, (defScope st).names.lookup y.1 = some .local ∨ ((defScope st).names.lookup y.1 = some .cell ∧ ((cellsFrom (s.heap.objs.size + 1) (defScope st).names []).lookup y.1).isSome = true) := by
    rintro ⟨n, v⟩ hy
    rcases S.par n (List.of_mem_zip hy).1 with q | q
    · exact .inl q
    · exact .inr ⟨q, PySem.W.cellsFrom_some _ _ _ (.inl q)⟩
  refine codeAny_call_function hr.depth (KX _ _ lk) rfl S.co S.gen rfl (PySem.W.codeRec_of KX hcd) (hb _ _ _ _ ?_)
  refine wpAny_newFunctionEnv_cells S.kind kinds fun env he s1 x => ?_
  subst he
  refine ⟨nl.keeps x.toInCall.keep, codeAny_func ?_⟩
  have I : Inv (cxOf (L2.CX P w) P w K mg base N qual (defScope st) f cdv A outer s H E) [] (L2.start N vs) H s1 := inv_start S hr.hd e0 hl r x
  obtain ⟨F, α, S0, ds, rp, rv, p⟩ := hsp
  unfold mDef at p
  obtain ⟨hn, p⟩ : ds.length = ps.length ∧ _ := by
    by_cases h : ds.length = ps.length
    · rw [if_pos h] at p; exact ⟨h, p⟩
    · rw [if_neg h] at p; exact False.elim p
  rw [← hn] at p
  let C : Ends := { nx := fun _ H' => Q .non H', rt := Q }
  have hq : tMS ⟨K, cls⟩ E b C (L2.start N vs) H := by
    refine ⟨F, α, _, S0, ⟨rp, re_start rv⟩, post_mono (post_bind p) fun α1 S1 H1 fl e1 p1 r1 q => ?_⟩
    cases fl with
    | nx ρ => exact fun σ _ => post_ok (E := E) q r1 _ .non
    | rt d => exact fun v rv => post_ok (E := E) q r1 v rv
    | bk ρ => exact False.elim q
    | ct ρ => exact False.elim q
  refine wpAny_mono ((hbody cdv A outer s H E (hr.deeper _) hgd).run [] s1 (L2.start N vs) H C I hq) (fun fl s' hs => ?_) fun _ _ hs => hs
  cases fl with
  | ret u =>
    obtain ⟨v, σ', H', J, rv, q⟩ := hs
    exact ⟨v, H', J.os, J.bare, J.base, J.hok, rv, q⟩
  | next =>
    obtain ⟨σ', H', J, q⟩ := hs
    exact ⟨V.non, H', J.os, J.bare, J.base, J.hok, rfl, q⟩
  | brk =>
    obtain ⟨_, _, _, q⟩ := hs
    exact False.elim q
  | cont =>
    obtain ⟨_, _, _, q⟩ := hs
    exact False.elim q

/-! ### calls -/
section
variable {X : Cx} {cls : Str → Addr} {E : XK} {x : Str} {e a b c o : Expr} {es : List Expr} {p pos apos : Pos} {k : Nat} {f C : Addr} {fd : FuncData} {ps : List Str} {m : List D → Store → R D} {ma : MAs} {mo : ME}
theorem run_g {sp : Sp} {pins : List (Addr × Obj)} {σ : L2.St} {H : Hp} {s : Shared} {Q : VK} {us : List Value} {vs : List V} (Fn : FnG X.prog X.w X.K X.mg X.base k f fd ps sp) (hr : Room k X.A) (hgd : X.A.guards = some []) (hb : Binds X.K fd ps []) (hx : Passes (L2.CX X.prog X.w) X E)
    (I : Inv X pins σ H s) (r : Vals vs us) (h : sp vs H Q E) : wpAny (model X.prog X.w) X.A (call (.ref f) us) (EP X pins σ Q) X.xe s := by
  have hl : us.length = ps.length := by rw [← r.length]; exact Fn.len _ _ _ _ h
  have hb' : BindsTo s fd ⟨us, []⟩ (ps.zip us) := by
    have := hb s us I.kIn (by rw [List.append_nil]; exact hl)
    rw [List.append_nil] at this
    exact this
  refine wpAny_call (codeAny_mono (Fn.run X.A X.stack s H ⟨us, []⟩ us vs Q E hr hgd I.env0 hb' r h) fun rr s' hq => ?_)
  cases rr with
  | ok fl =>
    cases fl with
    | ret u => exact I.after hq
    | next => exact False.elim hq
    | brk => exact False.elim hq
    | cont => exact False.elim hq
  | error e => exact hx pins σ H s e s' I hq
def mCall (m : List D → Store → R D) (ma : MAs) : ME := fun ρ S => (ma ρ S).bind m
theorem call_reads : ∀ {σ : L2.St} {H : Hp} {Q : VK}, tM (G.mk X.K cls) E (mCall m ma) σ H Q → tMA (G.mk X.K cls) E ma σ H fun vs H1 => spM X.K cls m vs H1 Q E := by
  rintro σ H Q ⟨F, α, ρ, S, at_, p⟩
  exact ⟨F, α, ρ, S, at_, post_mono (post_bind p) fun α1 S1 H1 ds e1 p1 r1 q vs rvs => ⟨F, α1, S1, ds, r1, rvs, q⟩⟩
theorem me_call (Fn : FnG X.prog X.w X.K X.mg X.base k f fd ps (spM X.K cls m)) (hr : Room k X.A) (hgd : X.A.guards = some []) (hg : Gl X x) (hm : X.mg x = some (.ref f)) (hk : PySem.W.keepIn X.K (.ref f) = true) (hb : Binds X.K fd ps []) (hx : Passes (L2.CX X.prog X.w) X E)
    (ha : PA X (e :: es) (tMA (G.mk X.K cls) E ma)) (hdb : (x == ("__debug__" : Str)) = false := by decide) (he : starEach (e :: es) X.env = (false, eval e X.env) :: starEach es X.env := by rfl) (hpl : (backTo pos (starEach es X.env)).any (·.1) = false := by rfl) :
    PE X (.Call (.Name x p) (e :: es) [] pos) (tM (G.mk X.K cls) E (mCall m ma)) := by
  refine ⟨fun pins s σ H Q I h => wpAny_Call_Name_kw (ld_glob I hg hm ?_ hdb)⟩
  refine PySem.W.callWith_K (h₀ := X.base) I.ok.mod.kin hk (thn (ha.run pos pins s σ H _ I (call_reads h)) fun us s1 ⟨vs, H1, I1, r, q⟩ => ⟨I1.kIn, ?_⟩) he hpl
  exact run_g Fn hr hgd hb hx I1 r q
theorem me_call0 (Fn : FnG X.prog X.w X.K X.mg X.base k f fd ps (spM X.K cls m)) (hr : Room k X.A) (hgd : X.A.guards = some []) (hg : Gl X x) (hm : X.mg x = some (.ref f)) (hk : PySem.W.keepIn X.K (.ref f) = true) (hb : Binds X.K fd ps []) (hx : Passes (L2.CX X.prog X.w) X E)
    (hdb : (x == ("__debug__" : Str)) = false := by decide) : PE X (.Call (.Name x p) [] [] pos) (tM (G.mk X.K cls) E (mCall m mNil)) := by
  refine ⟨fun pins s σ H Q I h => wpAny_Call_Name_kw (ld_glob I hg hm ?_ hdb)⟩
  obtain ⟨F, α, ρ, S, at_, pp⟩ := h
  exact PySem.W.callWith_K0 I.kIn hk (run_g (us := []) (vs := []) Fn hr hgd hb hx I .nil ⟨F, α, S, [], at_.rep, .nil, pp⟩)
/-- f(k = v, ..) -/
theorem me_callK0 {ks : List Str} {kws : List Keyword} {perm : List Value → List Value} {permV : List V → List V} {permD : List D → List D} (Fn : FnG X.prog X.w X.K X.mg X.base k f fd ps (spM X.K cls m)) (hr : Room k X.A) (hgd : X.A.guards = some []) (hg : Gl X x) (hm : X.mg x = some (.ref f)) (hk : PySem.W.keepIn X.K (.ref f) = true)
    (hb : ∀ (s : Shared) (ws : List Value), (perm ws).length = ps.length → BindsTo s fd ⟨[], ks.zip ws⟩ (ps.zip (perm ws))) (hp : ∀ {zs : List V} {ws : List Value}, Vals zs ws → Vals (permV zs) (perm ws)) (hpd : ∀ {α : List Addr} {H : Hp} {zs : List V} {ds : List D}, RVs X.K α H zs ds → RVs X.K α H (permV zs) (permD ds))
    (hx : Passes (L2.CX X.prog X.w) X E) (hkw : PK X kws (tMA (G.mk X.K cls) E ma)) (hall : (backToKw pos (keywordEach kws X.env)).all (·.1.isSome) = true := by rfl) (hks : (backToKw pos (keywordEach kws X.env)).filterMap (·.1) = ks := by rfl) (hdb : (x == ("__debug__" : Str)) = false := by decide)
    (hpl : ((backTo pos (starEach [] X.env)).any (·.1) || (backToKw pos (keywordEach kws X.env)).any (·.1.isNone)) = false := by rfl) : PE X (.Call (.Name x p) [] kws pos) (tM (G.mk X.K cls) E (mCall (fun ds => m (permD ds)) ma)) := by
  refine ⟨fun pins s σ H Q I h => wpAny_Call_Name_kw (ld_glob I hg hm ?_ hdb)⟩
  have h' : tMA (G.mk X.K cls) E ma σ H fun zs H1 => spM X.K cls m (permV zs) H1 Q E := by
    obtain ⟨F, α, ρ, S, at_, pp⟩ := h
    exact ⟨F, α, ρ, S, at_, post_mono (post_bind pp) fun α1 S1 H1 ds e1 p1 r1 q vs rvs => ⟨F, α1, S1, _, r1, hpd rvs, q⟩⟩
  refine PySem.W.callWith_KW0 (h₀ := X.base) I.ok.mod.kin hk hall (thn (hkw.run pos pins s σ H _ I h') fun ws s1 ⟨zs, H1, I1, rz, q⟩ => ⟨I1.kIn, ?_⟩) hpl
  rw [hks]
  have rp := hp rz
  have hl : (perm ws).length = ps.length := by rw [← rp.length]; exact Fn.len _ _ _ _ q
  show wpAny _ _ (call (.ref f) [] (ks.zip ws)) _ _ _
  refine wpAny_call (codeAny_mono (Fn.run X.A X.stack s1 H1 ⟨[], ks.zip ws⟩ (perm ws) (permV zs) Q E hr hgd I1.env0 (hb s1 ws hl) rp q) fun rr s' hq => ?_)
  cases rr with
  | ok fl =>
    cases fl with
    | ret u => exact I1.after hq
    | next => exact False.elim hq
    | brk => exact False.elim hq
    | cont => exact False.elim hq
  | error e => exact hx pins σ H1 s1 e s' I1 hq
theorem mk_nil : PK X [] (tMA (G.mk X.K cls) E mNil) := by
  refine ⟨fun pos pins s σ H Q I h => pk_nil.run pos pins s σ H Q I ?_⟩
  obtain ⟨F, α, ρ, S, at_, pp⟩ := h
  exact post_ok (E := E) pp at_.rep [] .nil
theorem mk_cons {nm : Option Str} {kpos : Pos} {kws : List Keyword} {me : ME} {mr : MAs} (ha : PE X e (tM (G.mk X.K cls) E me)) (hr : PK X kws (tMA (G.mk X.K cls) E mr)) : PK X (⟨nm, e, kpos⟩ :: kws) (tMA (G.mk X.K cls) E (mCons me mr)) := by
  refine ⟨fun pos pins s σ H Q I h => (pk_cons ha hr).run pos pins s σ H Q I ?_⟩
  obtain ⟨F, α, ρ, S, at_, p⟩ := h
  refine ⟨F, α, ρ, S, at_, post_mono (post_bind p) fun α1 S1 H1 d e1 p1 r1 q v rv => ?_⟩
  refine ⟨F, α1, ρ, S1, at_.later e1 p1 r1, post_mono (post_bind q) fun α2 S2 H2 ds e2 p2 r2 q2 vs rvs => ?_⟩
  exact post_ok (E := E) q2 r2 _ (.cons (rv.mono e2 p2) rvs)
/-- a method of an instance of the class c -/
def asIns (c nm : Str) : D → Store → R D
  | .ref n, S => match S.get n with
    | some (.ins c' fs) => if c' = c ∧ fs.lookup nm = none then .ok (.ref n) S else .bad
    | _ => .bad
  | _, _ => .bad
def mMeth (c nm : Str) (m : List D → Store → R D) (mo : ME) (ma : MAs) : ME := fun ρ S => (mo ρ S).bind fun d S0 => (asIns c nm d S0).bind fun o S1 => (ma ρ S1).bind fun ds S2 => m (o :: ds) S2
theorem asIns_ok {F : List (Addr × HO)} {α : List Addr} {H : Hp} {γ : Type} {c nm : Str} {d : D} {v : V} {S : Store} {kk : D → Store → R γ} {CC : List Addr → Store → Hp → γ → Prop} (r1 : Rep (G.mk X.K cls) F α S H) (rv : RV X.K α H v d) (q : post (G.mk X.K cls) F α H ((asIns c nm d S).bind kk) CC E) :
    ∃ a dx fs, v = .ref a ∧ H a = some (.ins (cls c) dx fs) ∧ fs.lookup nm = none ∧ post (G.mk X.K cls) F α H (kk d S) CC E := by
  unfold asIns at q
  split at q
  · rename_i n
    split at q
    · rename_i c' fs hg
      by_cases hc : c' = c ∧ fs.lookup nm = none
      · rw [if_pos hc] at q
        cases rv with
        | ref hn =>
          obtain ⟨dx, vfs, ha, rf⟩ := r1.at hg hn
          refine ⟨_, dx, vfs, rfl, ?_, rf.lookN hc.2, q⟩
          rw [← hc.1]
          exact ha
      · rw [if_neg hc] at q
        exact False.elim q
    · exact False.elim q
  · exact False.elim q
theorem me_meth {cn nm : Str} {pl : Sem Bool} (he : PE X o (tM (G.mk X.K cls) E mo)) (cC : Cls X.K (cls cn)) (hm : Meth X.K (cls cn) nm f) (Fn : FnG X.prog X.w X.K X.mg X.base k f fd ps (spM X.K cls m)) (hr : Room k X.A) (hgd : X.A.guards = some []) (hb : Binds X.K fd ps []) (hx : Passes (L2.CX X.prog X.w) X E) (ha : PA X (e :: es) (tMA (G.mk X.K cls) E ma))
    (hst : starEach (e :: es) X.env = (false, eval e X.env) :: starEach es X.env := by rfl) (hpl : (backTo pos (starEach es X.env)).any (·.1) = false := by rfl)
    (ht : eval (.Call (.Attribute o nm apos) (e :: es) [] pos) X.env = (do
      let ov ← eval o X.env
      standAt apos.atName
      let (f, first) ← holding [ov] (getMethod ov nm pl)
      callWith pos f first (backTo pos (starEach (e :: es) X.env)) (backToKw pos (keywordEach [] X.env))) := by rfl) :
    PE X (.Call (.Attribute o nm apos) (e :: es) [] pos) (tM (G.mk X.K cls) E (mMeth cn nm m mo ma)) := by
  refine ⟨fun pins s σ H Q I h => ?_⟩
  obtain ⟨F, α, ρ, S, at_, pp⟩ := h
  refine PySem.W.methodCall_KW (pl := pl) (thn (he.run pins s σ H (fun x H1 => ∃ aa dx fs, x = .ref aa ∧ H1 aa = some (.ins (cls cn) dx fs) ∧ fs.lookup nm = none ∧ tMA (G.mk X.K cls) E ma σ H1 fun vs H2 => spM X.K cls m (x :: vs) H2 Q E) I ?_) fun u s1 ⟨y, H1, I1, ry, aa, dx, fs, ey, ea, l, q⟩ => ?_) ht
  · refine ⟨F, α, ρ, S, at_, post_mono (post_bind pp) fun α1 S1 H1 d e1 p1 r1 q v rv => ?_⟩
    obtain ⟨aa, dx, fs, rfl, ha, hl, q⟩ := asIns_ok r1 rv q
    refine ⟨aa, dx, fs, rfl, ha, hl, F, α1, ρ, S1, at_.later e1 p1 r1, post_mono (post_bind q) fun α2 S2 H2 ds e2 p2 r2 q2 vs rvs => ?_⟩
    exact ⟨F, α2, S2, d :: ds, r2, .cons (rv.mono e2 p2) rvs, q2⟩
  · subst ey
    obtain rfl : u = Value.ref aa := ry
    refine getmeth_ok I1 ea cC hm l ?_
    refine PySem.W.callWith_K (first := [.ref aa]) (h₀ := X.base) I.ok.mod.kin hm.kp (thn (ha.run pos pins s1 σ H1 _ I1 q) fun us s2 ⟨vs, H2, I2, r, q2⟩ => ⟨I2.kIn, ?_⟩) hst hpl
    exact run_g (us := .ref aa :: us) (vs := .ref aa :: vs) Fn hr hgd hb hx I2 (.cons rfl r) q2
theorem me_meth0 {cn nm : Str} {pl : Sem Bool} (he : PE X o (tM (G.mk X.K cls) E mo)) (cC : Cls X.K (cls cn)) (hm : Meth X.K (cls cn) nm f) (Fn : FnG X.prog X.w X.K X.mg X.base k f fd ps (spM X.K cls m)) (hr : Room k X.A) (hgd : X.A.guards = some []) (hb : Binds X.K fd ps []) (hx : Passes (L2.CX X.prog X.w) X E)
    (ht : eval (.Call (.Attribute o nm apos) [] [] pos) X.env = (do
      let ov ← eval o X.env
      standAt apos.atName
      let (f, first) ← holding [ov] (getMethod ov nm pl)
      callWith pos f first (backTo pos (starEach [] X.env)) (backToKw pos (keywordEach [] X.env))) := by rfl) :
    PE X (.Call (.Attribute o nm apos) [] [] pos) (tM (G.mk X.K cls) E (mMeth cn nm m mo mNil)) := by
  refine ⟨fun pins s σ H Q I h => ?_⟩
  obtain ⟨F, α, ρ, S, at_, pp⟩ := h
  refine PySem.W.methodCall_KW (pl := pl) (thn (he.run pins s σ H (fun x H1 => ∃ aa dx fs, x = .ref aa ∧ H1 aa = some (.ins (cls cn) dx fs) ∧ fs.lookup nm = none ∧ spM X.K cls m [x] H1 Q E) I ?_) fun u s1 ⟨y, H1, I1, ry, aa, dx, fs, ey, ea, l, q⟩ => ?_) ht
  · refine ⟨F, α, ρ, S, at_, post_mono (post_bind pp) fun α1 S1 H1 d e1 p1 r1 q v rv => ?_⟩
    obtain ⟨aa, dx, fs, rfl, ha, hl, q⟩ := asIns_ok r1 rv q
    exact ⟨aa, dx, fs, rfl, ha, hl, F, α1, S1, [d], r1, .cons rv .nil, q⟩
  · subst ey
    obtain rfl : u = Value.ref aa := ry
    refine getmeth_ok I1 ea cC hm l ?_
    exact PySem.W.callWith_K0 (first := [.ref aa]) I1.kIn hm.kp (run_g (us := [.ref aa]) (vs := [.ref aa]) Fn hr hgd hb hx I1 (.cons rfl .nil) q)
/-- C(..): a new instance, then __init__ -/
def mMake (c : Str) (m : List D → Store → R D) (ma : MAs) : ME := fun ρ S => (ma ρ S).bind fun ds S1 => (m (.ref S1.next :: ds) (S1.push (.ins c []))).bind fun d S2 => match d with
  | .non => .ok (.ref S1.next) S2
  | _ => .bad
theorem guards_make {A : Around} {C : Addr} {us : List Value} {kw : List (Str × Value)} : (A.under (.builtin "type.__call__" ⟨.ref C :: us, kw⟩)).guards = A.guards := by
  first | rfl | simp [Around.under, Code.guards, Code.isGuard, pushGuards, guardIds]
theorem run_gmake {sp : Sp} {pins : List (Addr × Obj)} {σ : L2.St} {H : Hp} {s : Shared} {Q : VK} {us : List Value} {vs : List V} (M : Mk X.K C f) (Fn : FnG X.prog X.w X.K X.mg X.base k f fd ps sp) (hr : Room (k + 1) X.A) (hgd : X.A.guards = some []) (hb : Binds X.K fd ps [])
    (hx : Passes (L2.CX X.prog X.w) X E) (I : Inv X pins σ H s) (r : Vals vs us)
    (h : ∀ y dx, H y = none → H dx = none → dx ≠ y → sp (.ref y :: vs) (upd (upd H dx (.own y)) y (.ins C dx [])) (fun v H2 => v = .non ∧ Q (.ref y) H2) E) : wpAny (model X.prog X.w) X.A (call (.ref C) us) (EP X pins σ Q) X.xe s := by
  have hq := h (s.heap.objs.size + 1) s.heap.objs.size (I.hok.fresh (Nat.le_succ _)) (I.hok.fresh (Nat.le_refl _)) (Nat.ne_of_lt (Nat.lt_succ_self _))
  have I2 := Inv.made (C := C) I
  have r2 : Vals (V.ref (s.heap.objs.size + 1) :: vs) (Value.ref (s.heap.objs.size + 1) :: us) := .cons rfl r
  have hl : (Value.ref (s.heap.objs.size + 1) :: us).length = ps.length := by
    rw [← r2.length]
    exact Fn.len _ _ _ _ hq
  have hb' := hb _ (Value.ref (s.heap.objs.size + 1) :: us) I2.kIn (by rw [List.append_nil]; exact hl)
  rw [List.append_nil] at hb'
  refine wpAny_call (make_map (f := f) I.kIn M.makes M.init (beq_iff_eq.mp M.fn) (codeAny_mono (Fn.run _ X.stack _ _ ⟨Value.ref (s.heap.objs.size + 1) :: us, []⟩ _ _ _ E (hr.make C us []) (guards_make.trans hgd) (I2.env0.make C us []) hb' r2 hq) fun rr s' hq' => ?_))
  cases rr with
  | ok fl =>
    cases fl with
    | ret u =>
      obtain ⟨v, H', I3, rv, ev, q3⟩ := I2.after hq'
      subst ev
      exact ⟨rv, ⟨V.ref (s.heap.objs.size + 1), H', I3, rfl, q3⟩⟩
    | next => exact False.elim hq'
    | brk => exact False.elim hq'
    | cont => exact False.elim hq'
  | error e => exact hx pins σ _ _ e s' I2 hq'
theorem make_reads {cn : Str} {F : List (Addr × HO)} {α : List Addr} {H : Hp} {S : Store} {ds : List D} {vs : List V} {Q : VK} (r1 : Rep (G.mk X.K cls) F α S H) (rvs : RVs X.K α H vs ds)
    (q : post (G.mk X.K cls) F α H ((m (.ref S.next :: ds) (S.push (.ins cn []))).bind fun d S2 => match d with | .non => .ok (.ref S.next) S2 | _ => .bad) (CV (G.mk X.K cls) Q) E) :
    ∀ y dx, H y = none → H dx = none → dx ≠ y → spM X.K cls m (.ref y :: vs) (upd (upd H dx (.own y)) y (.ins (cls cn) dx [])) (fun v H2 => v = .non ∧ Q (.ref y) H2) E := by
  intro y dx hy hdx ne
  have hy' : upd H dx (.own y) y = none := by rw [upd_ne ne.symm]; exact hy
  have e1 : Ext H (upd (upd H dx (.own y)) y (.ins (cls cn) dx [])) := (Ext.new hdx _).trans (Ext.new hy' _)
  have r2 : Rep (G.mk X.K cls) F α S (upd (upd H dx (.own y)) y (.ins (cls cn) dx [])) := (r1.beside hdx _).beside hy' _
  have pr : α <+: α ++ [y] := List.prefix_append _ _
  have r3 : Rep (G.mk X.K cls) F (α ++ [y]) (S.push (.ins cn [])) (upd (upd H dx (.own y)) y (.ins (cls cn) dx [])) :=
    r2.push (r1.notin hy) (fun q hq => ne_of_none (r1.pin q hq).1 hy) ⟨dx, [], upd_same, .nil⟩
  have hn : (α ++ [y])[S.next]? = some y := by rw [← r1.len]; simp
  refine ⟨F, α ++ [y], S.push (.ins cn []), .ref S.next :: ds, r3, .cons (.ref hn) (rvs.mono e1 pr), post_mono (post_bind (post_later q e1 pr)) fun α2 S2 H2 d e2 p2 r4 q2 v rv => ?_⟩
  cases rv with
  | non => exact ⟨rfl, post_ok (E := E) q2 r4 _ (.ref (pre_get p2 hn))⟩
  | bl _ => exact False.elim q2
  | int _ => exact False.elim q2
  | str _ => exact False.elim q2
  | ref _ => exact False.elim q2
  | tup _ _ => exact False.elim q2
  | rl _ _ => exact False.elim q2
theorem me_make {cn : Str} (M : Mk X.K (cls cn) f) (Fn : FnG X.prog X.w X.K X.mg X.base k f fd ps (spM X.K cls m)) (hr : Room (k + 1) X.A) (hgd : X.A.guards = some []) (hg : Gl X x) (hm : X.mg x = some (.ref (cls cn))) (hb : Binds X.K fd ps []) (hx : Passes (L2.CX X.prog X.w) X E)
    (ha : PA X (e :: es) (tMA (G.mk X.K cls) E ma)) (hdb : (x == ("__debug__" : Str)) = false := by decide) (he : starEach (e :: es) X.env = (false, eval e X.env) :: starEach es X.env := by rfl) (hpl : (backTo pos (starEach es X.env)).any (·.1) = false := by rfl) :
    PE X (.Call (.Name x p) (e :: es) [] pos) (tM (G.mk X.K cls) E (mMake cn m ma)) := by
  refine ⟨fun pins s σ H Q I h => wpAny_Call_Name_kw (ld_glob I hg hm ?_ hdb)⟩
  obtain ⟨F, α, ρ, S, at_, pp⟩ := h
  have h' : tMA (G.mk X.K cls) E ma σ H fun vs H1 => ∀ y dx, H1 y = none → H1 dx = none → dx ≠ y → spM X.K cls m (.ref y :: vs) (upd (upd H1 dx (.own y)) y (.ins (cls cn) dx [])) (fun v H2 => v = .non ∧ Q (.ref y) H2) E :=
    ⟨F, α, ρ, S, at_, post_mono (post_bind pp) fun α1 S1 H1 ds e1 p1 r1 q vs rvs => make_reads r1 rvs q⟩
  refine PySem.W.callWith_K (h₀ := X.base) I.ok.mod.kin M.kp (thn (ha.run pos pins s σ H _ I h') fun us s1 ⟨vs, H1, I1, r, q⟩ => ⟨I1.kIn, ?_⟩) he hpl
  exact run_gmake M Fn hr hgd hb hx I1 r q
theorem me_make0 {cn : Str} (M : Mk X.K (cls cn) f) (Fn : FnG X.prog X.w X.K X.mg X.base k f fd ps (spM X.K cls m)) (hr : Room (k + 1) X.A) (hgd : X.A.guards = some []) (hg : Gl X x) (hm : X.mg x = some (.ref (cls cn))) (hb : Binds X.K fd ps []) (hx : Passes (L2.CX X.prog X.w) X E)
    (hdb : (x == ("__debug__" : Str)) = false := by decide) : PE X (.Call (.Name x p) [] [] pos) (tM (G.mk X.K cls) E (mMake cn m mNil)) := by
  refine ⟨fun pins s σ H Q I h => wpAny_Call_Name_kw (ld_glob I hg hm ?_ hdb)⟩
  obtain ⟨F, α, ρ, S, at_, pp⟩ := h
  exact PySem.W.callWith_K0 I.kIn M.kp (run_gmake (us := []) (vs := []) M Fn hr hgd hb hx I .nil (make_reads at_.rep .nil pp))
end
end MM

/-! The mirror layer, part F: operators, built-ins. -/
namespace MM
open PySem L2 PyProof.Rows PySem.Spec

/-! ### data as the library's -/
def optAll {β γ : Type} (g : β → Option γ) : List β → Option (List γ)
  | [] => some []
  | d :: ds => match g d with
    | some p => match optAll g ds with
      | some ps => some (p :: ps)
      | none => none
    | none => none
def toP (S : Store) : Nat → D → Option PyData
  | 0, _ => none
  | f + 1, d => match d with
    | .non => some .none
    | .bl b => some (.bool b)
    | .int i => some (.int i)
    | .str s => some (.str s)
    | .tup ds => (optAll (toP S f) ds).map .tuple
    | .rl ds => (optAll (toP S f) ds).map .list
    | .ref n => match S.get n with
      | some (.lst ds) => (optAll (toP S f) ds).map .list
      | _ => none
section
variable {Γ : G} {F : List (Addr × HO)} {α : List Addr} {H : Hp} {S : Store}
theorem dpAll_of {g : D → Option PyData} (hg : ∀ v d p, RV Γ.K α H v d → g d = some p → Dp Γ.K H v p) : ∀ {vs : List V} {ds : List D} {ps : List PyData}, RVs Γ.K α H vs ds → optAll g ds = some ps → DpAll Γ.K H vs ps
  | _, _, _, .nil, h => by
    cases h
    exact .nil
  | _, d :: ds, _, .cons r rs, h => by
    unfold optAll at h
    split at h
    · rename_i p hp
      split at h
      · rename_i ps hps
        cases h
        exact .cons (hg _ _ _ r hp) (dpAll_of hg rs hps)
      · cases h
    · cases h
theorem dp_of (rp : Rep Γ F α S H) : ∀ (f : Nat) {v : V} {d : D} {p : PyData}, RV Γ.K α H v d → toP S f d = some p → Dp Γ.K H v p
  | 0, _, _, _, _, h => by cases h
  | f + 1, _, _, _, r, h => by
    unfold toP at h
    cases r with
    | non => cases h; exact .non
    | bl b => cases h; exact .bl b
    | int i => cases h; exact .int i
    | str s => cases h; exact .str s
    | tup ht hs =>
      obtain ⟨ps, h1, rfl⟩ := Option.map_eq_some_iff.mp h
      exact .tup ht.sq (dpAll_of (fun v d p r h => dp_of rp f r h) hs h1)
    | rl ht hs =>
      obtain ⟨ps, h1, rfl⟩ := Option.map_eq_some_iff.mp h
      exact .lst ht.sq (dpAll_of (fun v d p r h => dp_of rp f r h) hs h1)
    | ref hn =>
      simp only at h
      split at h
      · rename_i ds hg
        obtain ⟨vs, hv, rvs⟩ := rp.at hg hn
        obtain ⟨ps, h1, rfl⟩ := Option.map_eq_some_iff.mp h
        exact .lst (SqL.of hv) (dpAll_of (fun v d p r h => dp_of rp f r h) rvs h1)
      · cases h
end

section
variable {X : Cx} {cls : Str → Addr} {E : XK} {x : Str} {e a b c o : Expr} {es : List Expr} {pos : Pos} {st : Stmt} {sts : List Stmt} {tg : Expr}

/-! ### whole numbers -/
def dI (g : Int → Int → D) : D → D → Store → R D
  | .int i, .int j, S => .ok (g i j) S
  | _, _, _ => .bad
def dIC (C : Int → Int → Bool) (g : Int → Int → D) : D → D → Store → R D
  | .int i, .int j, S => if C i j = true then .ok (g i j) S else .bad
  | _, _, _ => .bad
theorem dI_ok {F : List (Addr × HO)} {α : List Addr} {H : Hp} {S : Store} {g : Int → Int → D} {d e : D} {x y : V} {C : List Addr → Store → Hp → D → Prop} (r : Rep (G.mk X.K cls) F α S H) (hx : RV X.K α H x d) (hy : RV X.K α H y e) (p : post (G.mk X.K cls) F α H (dI g d e S) C E) :
    ∃ i j, x = .int i ∧ y = .int j ∧ C α S H (g i j) := by
  unfold dI at p
  split at p
  · cases hx; cases hy
    exact ⟨_, _, rfl, rfl, post_ok (E := E) p r⟩
  · exact False.elim p
theorem dIC_ok {F : List (Addr × HO)} {α : List Addr} {H : Hp} {S : Store} {c : Int → Int → Bool} {g : Int → Int → D} {d e : D} {x y : V} {C : List Addr → Store → Hp → D → Prop} (r : Rep (G.mk X.K cls) F α S H) (hx : RV X.K α H x d) (hy : RV X.K α H y e) (p : post (G.mk X.K cls) F α H (dIC c g d e S) C E) :
    ∃ i j, x = .int i ∧ y = .int j ∧ c i j = true ∧ C α S H (g i j) := by
  unfold dIC at p
  split at p
  · cases hx; cases hy
    obtain ⟨h, p⟩ := post_if (X := X) (cls := cls) p
    exact ⟨_, _, rfl, rfl, h, post_ok (E := E) p r⟩
  · exact False.elim p
def opSub := dI fun i j => .int (i - j)
def opLt := dI fun i j => .bl (decide (i < j))
def opLe := dI fun i j => .bl (decide (i ≤ j))
def opGt := dI fun i j => .bl (decide (j < i))
def opGe := dI fun i j => .bl (decide (j ≤ i))
def opFdiv := dIC (fun _ j => decide (j ≠ 0) && decide (j.natAbs.log2 < 9000)) fun i j => .int (i.fdiv j)
def opMod := dIC (fun _ j => decide (j ≠ 0)) fun i j => .int (i.fmod j)
theorem om_sub : OpM X cls E (rI0 fun i j => .int (i - j)) opSub := fun F α S H x y d e Q r hx hy p => let ⟨i, j, h1, h2, q⟩ := dI_ok r hx hy p; ⟨i, j, h1, h2, q _ (.int _)⟩
theorem om_lt : OpM X cls E (rI0 fun i j => .bl (decide (i < j))) opLt := fun F α S H x y d e Q r hx hy p => let ⟨i, j, h1, h2, q⟩ := dI_ok r hx hy p; ⟨i, j, h1, h2, q _ (.bl _)⟩
theorem om_le : OpM X cls E (rI0 fun i j => .bl (decide (i ≤ j))) opLe := fun F α S H x y d e Q r hx hy p => let ⟨i, j, h1, h2, q⟩ := dI_ok r hx hy p; ⟨i, j, h1, h2, q _ (.bl _)⟩
theorem om_gt : OpM X cls E (rI0 fun i j => .bl (decide (j < i))) opGt := fun F α S H x y d e Q r hx hy p => let ⟨i, j, h1, h2, q⟩ := dI_ok r hx hy p; ⟨i, j, h1, h2, q _ (.bl _)⟩
theorem om_ge : OpM X cls E (rI0 fun i j => .bl (decide (j ≤ i))) opGe := fun F α S H x y d e Q r hx hy p => let ⟨i, j, h1, h2, q⟩ := dI_ok r hx hy p; ⟨i, j, h1, h2, q _ (.bl _)⟩
theorem op_fdivG : OpR X (binaryOp .FloorDiv) (rI (fun _ j => j ≠ 0 ∧ j.natAbs.log2 < 9000) fun i j => .int (i.fdiv j)) := opI fun _ _ _ _ _ _ _ hc q => floordiv_int hc.1 q (.inl (PyProof.noPylong_of_log2 hc.2))
theorem om_fdiv : OpM X cls E (rI (fun _ j => j ≠ 0 ∧ j.natAbs.log2 < 9000) fun i j => .int (i.fdiv j)) opFdiv := fun F α S H x y d e Q r hx hy p => by
  obtain ⟨i, j, h1, h2, hc, q⟩ := dIC_ok r hx hy p
  rw [Bool.and_eq_true] at hc
  exact ⟨i, j, h1, h2, ⟨of_decide_eq_true hc.1, of_decide_eq_true hc.2⟩, q _ (.int _)⟩
theorem om_mod : OpM X cls E (rI (fun _ j => j ≠ 0) fun i j => .int (i.fmod j)) opMod := fun F α S H x y d e Q r hx hy p => by
  obtain ⟨i, j, h1, h2, hc, q⟩ := dIC_ok r hx hy p
  exact ⟨i, j, h1, h2, of_decide_eq_true hc, q _ (.int _)⟩

def opPow := dIC (fun i j => decide (0 ≤ j) && (decide (j ≤ 1000000) && decide (i.natAbs < 2 ^ 64))) fun i j => .int (i ^ j.toNat)
theorem om_pow : OpM X cls E (rI CPow fun i j => .int (i ^ j.toNat)) opPow := fun F α S H x y d e Q r hx hy p => by
  obtain ⟨i, j, h1, h2, hc, q⟩ := dIC_ok r hx hy p
  simp only [Bool.and_eq_true, decide_eq_true_eq] at hc
  exact ⟨i, j, h1, h2, ⟨hc.1, hc.2.1, hc.2.2⟩, q _ (.int _)⟩
def opNeg : D → Store → R D
  | .int i, S => .ok (.int (-i)) S
  | _, _ => .bad
theorem om_neg : UnM X cls E (rU fun i => .int (-i)) opNeg := by
  intro F α S H x d Q r hx p
  unfold opNeg at p
  split at p
  · cases hx
    exact ⟨_, rfl, post_ok (E := E) p r _ (.int _)⟩
  · exact False.elim p
/-- a comparison as a test -/
theorem test_reads {t : TE} {m : ME} (h : ∀ σ H Q, tM (G.mk X.K cls) E m σ H Q → t σ H Q) : ∀ σ H Q, tMT (G.mk X.K cls) E (mB m) σ H Q → tTest t σ H Q := by
  rintro σ H Q ⟨F, α, ρ, S, at_, p⟩
  refine h σ H _ ⟨F, α, ρ, S, at_, post_mono (post_bind p) fun α1 S1 H1 d e1 p1 r1 q v rv => ?_⟩
  have q' : post (G.mk X.K cls) F α1 H1 ((asB d S1).bind fun b S2 => R.ok b S2) (CT Q) E := by
    have e : (asB d S1).bind (fun b S2 => R.ok b S2) = asB d S1 := by cases asB d S1 <;> rfl
    rw [e]
    exact q
  obtain ⟨c, hc, q2⟩ := post_asB rv q'
  exact ⟨c, hc, post_ok q2 r1⟩
theorem mt_cmp {op : CmpOp} {r : R2} {g : D → D → Store → R D} {ma mb : ME} (ho : OpR X (compareOp op) r) (hr : OpM X cls E r g) (ha : PE X a (tM (G.mk X.K cls) E ma)) (hb : PE X b (tM (G.mk X.K cls) E mb)) (hm : behindInMarks op b = false) : PT X (.Compare a [op] [b] pos) (tMT (G.mk X.K cls) E (mB (mOp g ma mb))) :=
  ptI (pt_cmpR ho ha hb hm) (test_reads (op_reads hr))
/-- a < b < c -/
def mChain (g g' : D → D → Store → R D) (ma mb mc : ME) : ME := fun ρ S => (ma ρ S).bind fun d S1 => (mb ρ S1).bind fun e S2 => (g d e S2).bind fun z S3 => (asB z S3).bind fun k S4 => if k = true then (mc ρ S4).bind fun f S5 => g' e f S5 else .ok (.bl false) S4
theorem chain_reads {r r' : R2} {g g' : D → D → Store → R D} {ma mb mc : ME} (hr : OpM X cls E r g) (hr' : OpM X cls E r' g') : ∀ σ H Q, tM (G.mk X.K cls) E (mChain g g' ma mb mc) σ H Q → tChain r r' (tM (G.mk X.K cls) E ma) (tM (G.mk X.K cls) E mb) (tM (G.mk X.K cls) E mc) σ H Q := by
  rintro σ H Q ⟨F, α, ρ, S, at_, p⟩
  refine ⟨F, α, ρ, S, at_, post_mono (post_bind p) fun α1 S1 H1 d e1 p1 r1 q v rv => ?_⟩
  refine ⟨F, α1, ρ, S1, at_.later e1 p1 r1, post_mono (post_bind q) fun α2 S2 H2 d2 e2 p2 r2 q2 v2 rv2 => ?_⟩
  refine hr F α2 S2 H2 v v2 d d2 _ r2 (rv.mono e2 p2) rv2 (post_mono (post_bind q2) fun α3 S3 H3 d3 e3 p3 r3 q3 v3 rv3 => ?_)
  obtain ⟨c, hc, q4⟩ := post_asB rv3 q3
  refine ⟨c, hc, if_reads q4 (fun q5 => ?_) fun q5 => post_ok (E := E) q5 r3 _ (.bl false)⟩
  refine ⟨F, α3, ρ, S3, ((at_.later e1 p1 r1).later e2 p2 r2).later e3 p3 r3, post_mono (post_bind q5) fun α6 S6 H6 d6 e6 p6 r6 q6 v6 rv6 => ?_⟩
  exact hr' F α6 S6 H6 v2 v6 d2 d6 Q r6 ((rv2.mono e3 p3).mono e6 p6) rv6 q6
theorem me_chain {op op' : CmpOp} {r r' : R2} {g g' : D → D → Store → R D} {ma mb mc : ME} (ho : OpR X (compareOp op) r) (hr : OpM X cls E r g) (ho' : OpR X (compareOp op') r') (hr' : OpM X cls E r' g') (ha : PE X a (tM (G.mk X.K cls) E ma)) (hb : PE X b (tM (G.mk X.K cls) E mb)) (hc : PE X c (tM (G.mk X.K cls) E mc))
    (hm : lastMarks [op, op'] [b, c] = false := by with_unfolding_all rfl) : PE X (.Compare a [op, op'] [b, c] pos) (tM (G.mk X.K cls) E (mChain g g' ma mb mc)) := peI (pe_chain ho ho' ha hb hc hm) (chain_reads hr hr')
theorem mt_chain {op op' : CmpOp} {r r' : R2} {g g' : D → D → Store → R D} {ma mb mc : ME} (ho : OpR X (compareOp op) r) (hr : OpM X cls E r g) (ho' : OpR X (compareOp op') r') (hr' : OpM X cls E r' g') (ha : PE X a (tM (G.mk X.K cls) E ma)) (hb : PE X b (tM (G.mk X.K cls) E mb)) (hc : PE X c (tM (G.mk X.K cls) E mc))
    (hm : lastMarks [op, op'] [b, c] = false := by with_unfolding_all rfl) : PT X (.Compare a [op, op'] [b, c] pos) (tMT (G.mk X.K cls) E (mB (mChain g g' ma mb mc))) := ptI (pt_chain ho ho' ha hb hc hm) (test_reads (chain_reads hr hr'))
/-! ### + and * -/
def opAdd : D → D → Store → R D
  | .int i, .int j, S => .ok (.int (i + j)) S
  | .str i, .str j, S => if fits (i.length + j.length) = true then .ok (.str (i ++ j)) S else .bad
  | .tup ds, .tup es, S => if ds ≠ [] ∧ fits (ds.length + es.length) = true then .ok (.tup (ds ++ es)) S else .bad
  | .ref n, .ref m, S => match S.get n, S.get m with
    | some (.lst ds), some (.lst es) => if fits (ds.length + es.length) = true then .ok (.ref S.next) (S.push (.lst (ds ++ es))) else .bad
    | _, _ => .bad
  | _, _, _ => .bad
/-- a new list goes into the store, at a free place -/
theorem newL {F : List (Addr × HO)} {α : List Addr} {H : Hp} {S : Store} {vs : List V} {ds : List D} {C : List Addr → Store → Hp → D → Prop} (r : Rep (G.mk X.K cls) F α S H) (rv : RVs X.K α H vs ds) (p : post (G.mk X.K cls) F α H (.ok (.ref S.next) (S.push (.lst ds))) C E) :
    ∀ q, H q = none → C (α ++ [q]) (S.push (.lst ds)) (upd H q (.lst vs)) (.ref S.next) ∧ RV X.K (α ++ [q]) (upd H q (.lst vs)) (.ref q) (.ref S.next) := by
  intro q hq
  have pr : α <+: α ++ [q] := List.prefix_append _ _
  have ee := Ext.new hq (HO.lst vs)
  refine ⟨p (α ++ [q]) _ ee pr ((r.beside hq _).push (r.notin hq) (fun z hz => ne_of_none (r.pin z hz).1 hq) ⟨vs, upd_same, rv.mono ee pr⟩), .ref ?_⟩
  rw [← r.len]
  simp
abbrev rAddU (K : PySem.W.Frag) : R2 := fun x y H Q => ((rI0 fun i j => .int (i + j)) x y H Q ∨ (∃ i j, x = .str i ∧ y = .str j ∧ i.length + j.length ≤ sizeLine ∧ Q (.str (i ++ j)) H)) ∨ rCatT K x y H Q ∨ rCat x y H Q
theorem or_add : OpR X (binaryOp .Add) (rAddU X.K) := (op_add.or op_add_str).or (op_catT.or op_cat)
theorem om_add : OpM X cls E (rAddU X.K) opAdd := by
  intro F α S H x y d e Q r hx hy p
  unfold opAdd at p
  split at p
  · cases hx; cases hy
    exact .inl (.inl ⟨_, _, rfl, rfl, post_ok (E := E) p r _ (.int _)⟩)
  · cases hx; cases hy
    obtain ⟨h, p⟩ := post_fits (X := X) (cls := cls) p
    exact .inl (.inr ⟨_, _, rfl, rfl, fits_le h, post_ok (E := E) p r _ (.str _)⟩)
  · cases hx with
    | tup h1 s1 =>
      cases hy with
      | tup h2 s2 =>
        obtain ⟨⟨h, hf⟩, p⟩ := post_if (X := X) (cls := cls) p
        refine .inr (.inl ⟨_, _, _, _, rfl, rfl, h1.sq, h2.sq, fun z => h ?_, by rw [s1.length, s2.length]; exact fits_le hf, fun z => ?_, fun z q hq => ?_⟩)
        · subst z; cases s1; rfl
        · subst z
          cases s2
          refine post_ok (E := E) p r _ (.tup h1 ?_)
          rw [List.append_nil]
          exact s1
        · exact p α _ (Ext.new hq _) (List.prefix_refl _) (r.beside hq _) _ (.tup (.inl upd_same) ((s1.append s2).mono (Ext.new hq _) (List.prefix_refl _)))
  · cases hx with
    | ref h1 =>
      cases hy with
      | ref h2 =>
        split at p
        · rename_i g1 g2
          obtain ⟨hf, p⟩ := post_fits (X := X) (cls := cls) p
          obtain ⟨vs, hv, rv⟩ := r.at g1 h1
          obtain ⟨ws, hw, rw'⟩ := r.at g2 h2
          refine .inr (.inr ⟨_, _, _, _, rfl, rfl, hv, hw, by rw [rv.length, rw'.length]; exact fits_le hf, fun q hq => ?_⟩)
          obtain ⟨h, h'⟩ := newL r (rv.append rw') p q hq
          exact h _ h'
        · exact False.elim p
  · exact False.elim p
def opMul : D → D → Store → R D
  | .int i, .int j, S => if i.natAbs.log2 + j.natAbs.log2 < 1000000 then .ok (.int (i * j)) S else .bad
  | .ref n, .int k, S => match S.get n with
    | some (.lst ds) => if smI k = true ∧ fits (ds.length * k.toNat) = true then .ok (.ref S.next) (S.push (.lst (List.replicate k.toNat ds).flatten)) else .bad
    | _ => .bad
  | _, _, _ => .bad
abbrev rMulU : R2 := fun x y H Q => (rI CMulW fun i j => .int (i * j)) x y H Q ∨ rRep x y H Q
theorem or_mul : OpR X (binaryOp .Mult) rMulU := op_mulW.or op_rep
theorem RVs.rep {K : PySem.W.Frag} {α : List Addr} {H : Hp} {vs : List V} {ds : List D} (r : RVs K α H vs ds) : ∀ n : Nat, RVs K α H (List.replicate n vs).flatten (List.replicate n ds).flatten
  | 0 => .nil
  | n + 1 => by
    rw [List.replicate_succ, List.replicate_succ, List.flatten_cons, List.flatten_cons]
    exact r.append (RVs.rep r n)
theorem om_mul : OpM X cls E rMulU opMul := by
  intro F α S H x y d e Q r hx hy p
  unfold opMul at p
  split at p
  · cases hx; cases hy
    obtain ⟨h, p⟩ := post_if (X := X) (cls := cls) p
    exact .inl ⟨_, _, rfl, rfl, h, post_ok (E := E) p r _ (.int _)⟩
  · cases hx with
    | ref h1 =>
      cases hy
      split at p
      · rename_i g1
        obtain ⟨⟨k0, hf⟩, p⟩ := post_if (X := X) (cls := cls) p
        obtain ⟨k1, k2⟩ := smI_ok k0
        obtain ⟨vs, hv, rv⟩ := r.at g1 h1
        refine .inr ⟨_, _, _, rfl, rfl, hv, by omega, by omega, by rw [rv.length]; exact fits_le hf, fun q hq => ?_⟩
        obtain ⟨h, h'⟩ := newL r (rv.rep _) p q hq
        exact h _ h'
      · exact False.elim p
  · exact False.elim p

/-! ### ==, is, in -/
/-- two lists of unlike lengths -/
def lenNe : D → D → Store → Bool
  | .ref n, .ref m, S => match S.get n, S.get m with
    | some (.lst ds), some (.lst es) => ds.length != es.length
    | _, _ => false
  | _, _, _ => false
/-- == of data -/
def dEq (k : Bool → Bool) : D → D → Store → R D := fun d e S => if lenNe d e S = true then .ok (.bl (k false)) S else match toP S 66 d, toP S 66 e with
  | some p, some q => if (SeqAt.shaped p && SeqAt.shaped q) = true then .ok (.bl (k (PyData.eqv p q))) S else .bad
  | _, _ => .bad
def opEq := dEq id
def opNe := dEq not
abbrev rLenNe (k : Bool) : R2 := fun x y H Q => ∃ a b xs ys, x = .ref a ∧ y = .ref b ∧ H a = some (.lst xs) ∧ H b = some (.lst ys) ∧ (xs.length != ys.length) = true ∧ Q (.bl k) H
theorem op_lenEq (hu : X.A.units < cLine) : OpR X (compareOp .Eq) (rLenNe false) := by
  intro pins s σ H x y v u Q I rx ry h
  obtain ⟨a, b, xs, ys, rfl, rfl, ha, hb, hl, q⟩ := h
  obtain rfl : v = Value.ref a := rx
  obtain rfl : u = Value.ref b := ry
  obtain ⟨its, r1, p1, _⟩ := I.list (SqL.of ha)
  obtain ⟨its2, r2, p2, _⟩ := I.list (SqL.of hb)
  exact SeqAt.eq_list_lengthsAt p1.isList p2.isList (by rw [List.size_toArray, List.size_toArray, ← r1.length, ← r2.length]; exact hl) hu ⟨.bl false, H, I, rfl, q⟩
theorem op_lenNe (hu : X.A.units < cLine) : OpR X (compareOp .NotEq) (rLenNe true) := by
  intro pins s σ H x y v u Q I rx ry h
  obtain ⟨a, b, xs, ys, rfl, rfl, ha, hb, hl, q⟩ := h
  obtain rfl : v = Value.ref a := rx
  obtain rfl : u = Value.ref b := ry
  obtain ⟨its, r1, p1, _⟩ := I.list (SqL.of ha)
  obtain ⟨its2, r2, p2, _⟩ := I.list (SqL.of hb)
  exact SeqAt.RcNeAt.lists_lengths p1.isList p2.isList (by rw [List.size_toArray, List.size_toArray, ← r1.length, ← r2.length]; exact hl) hu _ _ _ _ ⟨.bl true, H, I, rfl, q⟩
abbrev rEqU (K : PySem.W.Frag) : R2 := fun x y H Q => rLenNe false x y H Q ∨ rEqD K x y H Q
abbrev rNeU (K : PySem.W.Frag) : R2 := fun x y H Q => rLenNe true x y H Q ∨ rNeD K x y H Q
theorem or_eq (hu : X.A.units + 64 < cLine) : OpR X (compareOp .Eq) (rEqU X.K) := (op_lenEq (by omega)).or (op_eqD hu)
theorem or_ne (hu : X.A.units + 64 < cLine) : OpR X (compareOp .NotEq) (rNeU X.K) := (op_lenNe (by omega)).or (op_neD hu)
theorem lenNe_ok {F : List (Addr × HO)} {α : List Addr} {H : Hp} {S : Store} {d e : D} {x y : V} (r : Rep (G.mk X.K cls) F α S H) (hx : RV X.K α H x d) (hy : RV X.K α H y e) (h : lenNe d e S = true) :
    ∃ a b xs ys, x = .ref a ∧ y = .ref b ∧ H a = some (.lst xs) ∧ H b = some (.lst ys) ∧ (xs.length != ys.length) = true := by
  unfold lenNe at h
  split at h
  · split at h
    · rename_i g1 g2
      cases hx with
      | ref h1 =>
        cases hy with
        | ref h2 =>
          obtain ⟨vs, hv, rv⟩ := r.at g1 h1
          obtain ⟨ws, hw, rw'⟩ := r.at g2 h2
          exact ⟨_, _, vs, ws, rfl, rfl, hv, hw, by rw [rv.length, rw'.length]; exact h⟩
    · cases h
  · cases h
theorem dEq_ok {F : List (Addr × HO)} {α : List Addr} {H : Hp} {S : Store} {k : Bool → Bool} {d e : D} {x y : V} {Q : VK} (r : Rep (G.mk X.K cls) F α S H) (hx : RV X.K α H x d) (hy : RV X.K α H y e) (p : post (G.mk X.K cls) F α H (dEq k d e S) (CV (G.mk X.K cls) Q) E) :
    (∃ a b xs ys, x = .ref a ∧ y = .ref b ∧ H a = some (.lst xs) ∧ H b = some (.lst ys) ∧ (xs.length != ys.length) = true ∧ Q (.bl (k false)) H) ∨
      ∃ p q, Dp X.K H x p ∧ Dp X.K H y q ∧ SeqAt.shaped p = true ∧ SeqAt.shaped q = true ∧ Q (.bl (k (PyData.eqv p q))) H := by
  unfold dEq at p
  by_cases hl : lenNe d e S = true
  · rw [if_pos hl] at p
    obtain ⟨a, b, xs, ys, h1, h2, h3, h4, h5⟩ := lenNe_ok r hx hy hl
    exact .inl ⟨a, b, xs, ys, h1, h2, h3, h4, h5, post_ok (E := E) p r _ (.bl _)⟩
  · rw [if_neg hl] at p
    split at p
    · rename_i p1 p2 h1 h2
      obtain ⟨h, p⟩ := post_if (X := X) (cls := cls) p
      rw [Bool.and_eq_true] at h
      exact .inr ⟨_, _, dp_of r 66 hx h1, dp_of r 66 hy h2, h.1, h.2, post_ok (E := E) p r _ (.bl _)⟩
    · exact False.elim p
theorem om_eq : OpM X cls E (rEqU X.K) opEq := fun F α S H x y d e Q r hx hy p => dEq_ok r hx hy p
theorem om_ne : OpM X cls E (rNeU X.K) opNe := fun F α S H x y d e Q r hx hy p => dEq_ok r hx hy p
def D.isNon : D → Bool
  | .non => true
  | _ => false
theorem isNon_rv {K : PySem.W.Frag} {α : List Addr} {H : Hp} {v : V} {d : D} (r : RV K α H v d) : decide (v = .non) = d.isNon := by
  cases r <;> first | rfl | exact decide_eq_false (fun z => nomatch z)
/-- is None; is True, is False -/
def dIs (k : Bool → Bool) : D → D → Store → R D
  | d, .non, S => .ok (.bl (k d.isNon)) S
  | .bl a, .bl b, S => .ok (.bl (k (decide (a = b)))) S
  | _, _, _ => .bad
def opIs := dIs id
def opIsNot := dIs not
abbrev rIsU : R2 := fun x y H Q => (y = .non ∧ Q (.bl (decide (x = .non))) H) ∨ rIsB x y H Q
abbrev rIsNotU : R2 := fun x y H Q => (y = .non ∧ Q (.bl (!decide (x = .non))) H) ∨ rNotB x y H Q
theorem or_is : OpR X (compareOp .Is) rIsU := op_isN.or op_isBl
theorem or_isNot : OpR X (compareOp .IsNot) rIsNotU := op_notN.or op_notBl
theorem om_is : OpM X cls E rIsU opIs := by
  intro F α S H x y d e Q r hx hy p
  unfold opIs dIs at p
  split at p
  · cases hy
    refine .inl ⟨rfl, ?_⟩
    rw [isNon_rv hx]
    exact post_ok (E := E) p r _ (.bl _)
  · cases hx; cases hy
    exact .inr ⟨_, _, rfl, rfl, post_ok (E := E) p r _ (.bl _)⟩
  · exact False.elim p
theorem om_isNot : OpM X cls E rIsNotU opIsNot := by
  intro F α S H x y d e Q r hx hy p
  unfold opIsNot dIs at p
  split at p
  · cases hy
    refine .inl ⟨rfl, ?_⟩
    rw [isNon_rv hx]
    exact post_ok (E := E) p r _ (.bl _)
  · cases hx; cases hy
    exact .inr ⟨_, _, rfl, rfl, post_ok (E := E) p r _ (.bl _)⟩
  · exact False.elim p
def D.flat : D → Bool
  | .non => true
  | .bl _ => true
  | .int _ => true
  | .str _ => true
  | _ => false
def D.eqF : D → D → Bool
  | .non, .non => true
  | .bl a, .bl b => a == b
  | .bl a, .int b => (if a then 1 else 0) == b
  | .int a, .bl b => a == (if b then 1 else 0)
  | .int a, .int b => a == b
  | .str a, .str b => a == b
  | _, _ => false
theorem flat_rv {K : PySem.W.Frag} {α : List Addr} {H : Hp} {v : V} {d : D} (r : RV K α H v d) : flatV v = d.flat := by cases r <;> rfl
theorem eqF_rv {K : PySem.W.Frag} {α : List Addr} {H : Hp} {v w : V} {d e : D} (r : RV K α H v d) (q : RV K α H w e) : eqV v w = d.eqF e := by cases r <;> cases q <;> rfl
theorem flats_rv {K : PySem.W.Frag} {α : List Addr} {H : Hp} : ∀ {vs : List V} {ds : List D}, RVs K α H vs ds → vs.all flatV = ds.all D.flat
  | _, _, .nil => rfl
  | _, _, .cons r rs => by rw [List.all_cons, List.all_cons, flat_rv r, flats_rv rs]
theorem in_rv {K : PySem.W.Frag} {α : List Addr} {H : Hp} {v : V} {d : D} (r : RV K α H v d) : ∀ {vs : List V} {ds : List D}, RVs K α H vs ds → inV v vs = ds.any fun e => e.eqF d
  | _, _, .nil => rfl
  | _, _, .cons q qs => by
    have ih := in_rv r qs
    unfold inV at ih ⊢
    rw [List.any_cons, List.any_cons, ih, eqF_rv q r]
/-- a dict's key -/
def D.key : D → Option Key
  | .int i => some (.inl i)
  | .str s => some (.inr s)
  | _ => none
theorem key_rv {K : PySem.W.Frag} {α : List Addr} {H : Hp} {v : V} {d : D} {k : Key} (r : RV K α H v d) (h : d.key = some k) : v = kV k := by
  cases r <;> first | (cases h; rfl) | cases h
def valD : List (Key × D) → Key → Option D
  | [], _ => none
  | (k, d) :: r, k' => if k = k' then some d else valD r k'
def putKD (kvs : List (Key × D)) (k : Key) (d : D) : List (Key × D) :=
  if (kvs.any fun kv => decide (kv.1 = k)) = true then kvs.map (fun kv => if kv.1 = k then (kv.1, d) else kv) else kvs ++ [(k, d)]
theorem valD_put_same (kvs : List (Key × D)) (k : Key) (d : D) : valD (putKD kvs k d) k = some d := by
  unfold putKD
  by_cases h : (kvs.any fun kv => decide (kv.1 = k)) = true
  · rw [if_pos h]
    induction kvs with
    | nil => cases h
    | cons p r ih =>
      obtain ⟨g, e⟩ := p
      rw [List.map_cons]
      by_cases c : g = k
      · simp [valD, c]
      · have h2 : (r.any fun kv => decide (kv.1 = k)) = true := by simpa [c] using h
        simp only [if_neg c, valD]
        exact ih h2
  · rw [if_neg h]
    induction kvs with
    | nil => simp [valD]
    | cons p r ih =>
      obtain ⟨g, e⟩ := p
      have h1 : ¬ g = k := by intro c; exact h (by simp [c])
      have h2 : ¬ (r.any fun kv => decide (kv.1 = k)) = true := by intro c; exact h (by rw [List.any_cons, c, Bool.or_true])
      rw [List.cons_append]
      simp only [valD, if_neg h1]
      exact ih h2
theorem valD_put_other (kvs : List (Key × D)) {k k' : Key} (d : D) (ne : k ≠ k') : valD (putKD kvs k d) k' = valD kvs k' := by
  unfold putKD
  by_cases h : (kvs.any fun kv => decide (kv.1 = k)) = true
  · rw [if_pos h]
    clear h
    induction kvs with
    | nil => rfl
    | cons p r ih =>
      obtain ⟨g, e⟩ := p
      rw [List.map_cons]
      by_cases c : g = k
      · subst c
        simp only [if_true, valD, if_neg ne]
        exact ih
      · simp only [if_neg c, valD]
        rw [ih]
  · rw [if_neg h]
    clear h
    induction kvs with
    | nil => simp [valD, ne]
    | cons p r ih =>
      obtain ⟨g, e⟩ := p
      rw [List.cons_append]
      simp only [valD]
      rw [ih]
theorem any_rv {K : PySem.W.Frag} {α : List Addr} {H : Hp} {k : Key} : ∀ {vs : List (Key × V)} {ds : List (Key × D)}, RFs Key K α H vs ds → (vs.any fun kv => decide (kv.1 = k)) = ds.any fun kv => decide (kv.1 = k)
  | _, _, .nil => rfl
  | _, _, .cons r rs => by rw [List.any_cons, List.any_cons, any_rv rs]
theorem map_rv {K : PySem.W.Frag} {α : List Addr} {H : Hp} {k : Key} {v : V} {d : D} (q : RV K α H v d) : ∀ {vs : List (Key × V)} {ds : List (Key × D)}, RFs Key K α H vs ds →
    RFs Key K α H (vs.map fun kv => if kv.1 = k then (kv.1, v) else kv) (ds.map fun kv => if kv.1 = k then (kv.1, d) else kv)
  | _, _, .nil => .nil
  | _, _, .cons (f := g) r rs => by
    rw [List.map_cons, List.map_cons]
    by_cases c : g = k
    · rw [if_pos c, if_pos c]
      exact .cons q (map_rv q rs)
    · rw [if_neg c, if_neg c]
      exact .cons r (map_rv q rs)
theorem app_rv {κ : Type} {K : PySem.W.Frag} {α : List Addr} {H : Hp} : ∀ {vs ws : List (κ × V)} {ds es : List (κ × D)}, RFs κ K α H vs ds → RFs κ K α H ws es → RFs κ K α H (vs ++ ws) (ds ++ es)
  | _, _, _, _, .nil, s => s
  | _, _, _, _, .cons r rs, s => .cons r (app_rv rs s)
theorem put_rv {K : PySem.W.Frag} {α : List Addr} {H : Hp} {k : Key} {v : V} {d : D} (q : RV K α H v d) {vs : List (Key × V)} {ds : List (Key × D)} (r : RFs Key K α H vs ds) : RFs Key K α H (putK vs k v) (putKD ds k d) := by
  unfold putK putKD
  rw [any_rv r]
  split
  · exact map_rv q r
  · exact app_rv r (.cons q .nil)
theorem valD_rv {K : PySem.W.Frag} {α : List Addr} {H : Hp} {k : Key} : ∀ {vks : List (Key × V)} {kvs : List (Key × D)}, RFs Key K α H vks kvs → (∀ d, valD kvs k = some d → ∃ v, valV vks k = some v ∧ RV K α H v d) ∧ (valD kvs k = none → valV vks k = none)
  | _, _, .nil => ⟨fun d h => (by cases h), fun _ => rfl⟩
  | _, _, .cons (f := g) r rs => by
    obtain ⟨h1, h2⟩ := valD_rv (k := k) rs
    unfold valD valV
    rw [List.find?_cons]
    by_cases c : g = k
    · rw [if_pos c, decide_eq_true c]
      exact ⟨fun d h => (by cases h; exact ⟨_, rfl, r⟩), fun h => (by cases h)⟩
    · rw [if_neg c, decide_eq_false c]
      exact ⟨h1, h2⟩
theorem valD_some {K : PySem.W.Frag} {α : List Addr} {H : Hp} {k : Key} {vks : List (Key × V)} {kvs : List (Key × D)} (r : RFs Key K α H vks kvs) : (valV vks k).isSome = (valD kvs k).isSome := by
  obtain ⟨h1, h2⟩ := valD_rv (k := k) r
  cases h : valD kvs k with
  | none => rw [h2 h]; rfl
  | some d =>
    obtain ⟨v, hv, _⟩ := h1 d h
    rw [hv]
    rfl
end
end MM

/-! The mirror layer, part G: in, subscripts, slices, methods, built-in functions. -/
namespace MM
open PySem L2 PyProof.Rows PySem.Spec
section
variable {X : Cx} {cls : Str → Addr} {E : XK} {x : Str} {e a b c o : Expr} {es : List Expr} {pos p : Pos} {st : Stmt} {sts : List Stmt} {tg : Expr}

/-! ### in -/
abbrev rDIn (n : Bool) : R2 := fun x y H Q => ∃ a o, y = .ref a ∧ DGet H a x o ∧ Q (.bl (if n = true then !o.isSome else o.isSome)) H
theorem op_din (hu : X.A.units + 1 < cLine) : OpR X (compareOp .In) (rDIn false) := by
  intro pins s σ H x y v u Q I rx ry h
  obtain ⟨a, ov, rfl, g, q⟩ := h
  obtain rfl : u = Value.ref a := ry
  exact d_in hu I g rx fun s3 I3 => ⟨.bl ov.isSome, H, I3, rfl, q⟩
theorem op_dnotin (hu : X.A.units + 1 < cLine) : OpR X (compareOp .NotIn) (rDIn true) := by
  intro pins s σ H x y v u Q I rx ry h
  obtain ⟨a, ov, rfl, g, q⟩ := h
  obtain rfl : u = Value.ref a := ry
  exact d_notIn hu I g rx fun s3 I3 => ⟨.bl (!ov.isSome), H, I3, rfl, q⟩
abbrev rSgn (n : Bool) : R2 := fun x y H Q => ∃ (c : Nat) (z : Str), x = .str ⟨#[c]⟩ ∧ y = .str z ∧ Q (.bl (if n = true then !decide (c ∈ z.cps.toList) else decide (c ∈ z.cps.toList))) H
def dIn (n : Bool) : D → D → Store → R D
  | d, .tup es, S => if (d.flat && es.all D.flat) = true then .ok (.bl (if n = true then !es.any (fun e => e.eqF d) else es.any fun e => e.eqF d)) S else .bad
  | d, .rl es, S => if (d.flat && es.all D.flat) = true then .ok (.bl (if n = true then !es.any (fun e => e.eqF d) else es.any fun e => e.eqF d)) S else .bad
  | d, .ref m, S => match S.get m with
    | some (.lst es) => if (d.flat && es.all D.flat) = true then .ok (.bl (if n = true then !es.any (fun e => e.eqF d) else es.any fun e => e.eqF d)) S else .bad
    | some (.dct kvs) => match d.key with
      | some k => .ok (.bl (if n = true then !(valD kvs k).isSome else (valD kvs k).isSome)) S
      | none => .bad
    | _ => .bad
  | .str s, .str z, S => match s.cps.toList with
    | [c] => .ok (.bl (if n = true then !decide (c ∈ z.cps.toList) else decide (c ∈ z.cps.toList))) S
    | _ => .bad
  | _, _, _ => .bad
abbrev rInU (K : PySem.W.Frag) (n : Bool) : R2 := fun x y H Q => (rIn K n x y H Q ∨ rDIn n x y H Q) ∨ rSgn n x y H Q
theorem or_in (hu : X.A.units + 1 < cLine) : OpR X (compareOp .In) (rInU X.K false) := (op_in_seq.or (op_din hu)).or op_in_sign
theorem or_notIn (hu : X.A.units + 1 < cLine) : OpR X (compareOp .NotIn) (rInU X.K true) := (op_notIn_seq.or (op_dnotin hu)).or op_notIn_sign
theorem one_sign {s : Str} {c : Nat} (h : s.cps.toList = [c]) : s = ⟨#[c]⟩ := by
  obtain ⟨cps⟩ := s
  congr 1
  exact Array.toList_inj.mp h
theorem om_in (n : Bool) : OpM X cls E (rInU X.K n) (dIn n) := by
  intro F α S H x y d e Q r hx hy p
  have seq : ∀ {vs : List V} {ds : List D} {q : Addr}, RVs X.K α H vs ds → (SqL X.K H q vs ∨ SqT X.K H q vs) → y = .ref q → (d.flat && ds.all D.flat) = true → Q (.bl (if n = true then !ds.any (fun e => e.eqF d) else ds.any fun e => e.eqF d)) H → rIn X.K n x y H Q := by
    intro vs ds q rv hs hy' hf hq
    rw [Bool.and_eq_true] at hf
    refine ⟨q, vs, hy', hs, by rw [flat_rv hx]; exact hf.1, by rw [flats_rv rv]; exact hf.2, ?_⟩
    rw [in_rv hx rv]
    exact hq
  unfold dIn at p
  split at p
  · obtain ⟨hf, p⟩ := post_if (X := X) (cls := cls) p
    cases hy with
    | tup h1 s1 => exact .inl (.inl (seq s1 (.inr h1.sq) rfl hf (post_ok (E := E) p r _ (.bl _))))
  · obtain ⟨hf, p⟩ := post_if (X := X) (cls := cls) p
    cases hy with
    | rl h1 s1 => exact .inl (.inl (seq s1 (.inl h1.sq) rfl hf (post_ok (E := E) p r _ (.bl _))))
  · cases hy with
    | ref h1 =>
      split at p
      · rename_i g
        obtain ⟨hf, p⟩ := post_if (X := X) (cls := cls) p
        obtain ⟨vs, hv, rv⟩ := r.at g h1
        exact .inl (.inl (seq rv (.inl (SqL.of hv)) rfl hf (post_ok (E := E) p r _ (.bl _))))
      · rename_i g
        split at p
        · rename_i k hk
          obtain ⟨vks, hv, rv⟩ := r.at g h1
          have e1 := key_rv hx hk
          subst e1
          refine .inl (.inr ⟨_, _, rfl, DGet.k hv, ?_⟩)
          rw [valD_some rv]
          exact post_ok (E := E) p r _ (.bl _)
        · exact False.elim p
      · exact False.elim p
  · cases hx; cases hy
    split at p
    · rename_i c hc
      refine .inr ⟨c, _, congrArg V.str (one_sign hc), rfl, post_ok (E := E) p r _ (.bl _)⟩
    · exact False.elim p
  · exact False.elim p

/-! ### x[i] -/
def atD (ds : List D) (i : Int) : Option D := atI ds i
theorem atI_rv {K : PySem.W.Frag} {α : List Addr} {H : Hp} {vs : List V} {ds : List D} {i : Int} {d : D} (r : RVs K α H vs ds) (h : atI ds i = some d) : ∃ v, atI vs i = some v ∧ RV K α H v d := by
  unfold atI at h ⊢
  rw [r.length]
  cases hi : ixN ds.length i with
  | none => rw [hi] at h; cases h
  | some j =>
    rw [hi] at h
    obtain ⟨v, h1, h2⟩ := r.get (show ds[j]? = some d from h)
    exact ⟨v, h1, h2⟩
def getIx : D → D → Store → R D
  | .tup ds, .int i, S => match atI ds i with
    | some d => .ok d S
    | none => .bad
  | .rl ds, .int i, S => match atI ds i with
    | some d => .ok d S
    | none => .bad
  | .str z, .int i, S => if fits z.length = true then match atI z.cps.toList i with
      | some c => .ok (.str ⟨#[c]⟩) S
      | none => .bad else .bad
  | .ref n, k, S => match S.get n with
    | some (.lst ds) => match k with
      | .int i => match atI ds i with
        | some d => .ok d S
        | none => .bad
      | _ => .bad
    | some (.dct kvs) => match k.key with
      | some k => match valD kvs k with
        | some d => .ok d S
        | none => .bad
      | none => .bad
    | _ => .bad
  | _, _, _ => .bad
abbrev rIxDc : R2 := fun x y H Q => ∃ a v, x = .ref a ∧ DGet H a y (some v) ∧ Q v H
theorem ix_dc (hu : X.A.units + 1 < cLine) : IxR X rIxDc := by
  intro value slice pins s σ H x y v u Q I rx ry h hs
  obtain ⟨a, w, rfl, g, q⟩ := h
  obtain rfl : v = Value.ref a := rx
  have ht := dict_typeIs I g
  have fin : wpAny (model X.prog X.w) X.A (subscripted slice false (.ref a) u) (fun r s₃ => wpAny (model X.prog X.w) X.A (letTemporaryGo value (.ref a) r >>= fun _ => pure r) (EP X pins σ Q) X.xe s₃) X.xe s := by
    rw [hs]
    exact wpAny_operating (d_getItem hu I g ry fun w' s3 I3 rw' => wpAny_bind (wpAny_letTemporaryGo (wpAny_pure ⟨w, H, I3, rw', q⟩)))
  unfold subscriptTail
  refine wpAny_bind ?_
  rw [getitemInPython_of_ne ht.not_modules]
  refine wpAny_bind (wpAny_specialOf ht PySem.F.slot_dict_getitem.lookup ?_)
  first
    | exact wpAny_pure (wpAny_bind fin)
    | exact wpAny_bind (wpAny_pure (wpAny_bind fin))
    | exact wpAny_bind fin
abbrev rIxU (K : PySem.W.Frag) : R2 := fun x y H Q => rIx K x y H Q ∨ rIxDc x y H Q
theorem ix_u (hu : X.A.units + 1 < cLine) : IxR X (rIxU X.K) := ix_seq.or (ix_dc hu)
theorem om_ix : OpM X cls E (rIxU X.K) getIx := by
  intro F α S H x y d e Q r hx hy p
  unfold getIx at p
  split at p
  · cases hy
    cases hx with
    | tup h1 s1 =>
      split at p
      · rename_i hi
        obtain ⟨v, hv, rv⟩ := atI_rv s1 hi
        exact .inl (.inr (.inl ⟨_, _, _, v, rfl, rfl, h1.sq, hv, post_ok (E := E) p r _ rv⟩))
      · exact False.elim p
  · cases hy
    cases hx with
    | rl h1 s1 =>
      split at p
      · rename_i hi
        obtain ⟨v, hv, rv⟩ := atI_rv s1 hi
        exact .inl (.inl ⟨_, _, _, v, rfl, rfl, h1.sq, hv, post_ok (E := E) p r _ rv⟩)
      · exact False.elim p
  · cases hx; cases hy
    obtain ⟨hf, p⟩ := post_fits (X := X) (cls := cls) p
    split at p
    · rename_i c hc
      exact .inl (.inr (.inr ⟨_, _, c, rfl, rfl, fits_le hf, hc, post_ok (E := E) p r _ (.str _)⟩))
    · exact False.elim p
  · cases hx with
    | ref h1 =>
      split at p
      · rename_i g
        obtain ⟨vs, hv, rv⟩ := r.at g h1
        split at p
        · cases hy
          split at p
          · rename_i hi
            obtain ⟨v, hv2, rv2⟩ := atI_rv rv hi
            exact .inl (.inl ⟨_, _, _, v, rfl, rfl, SqL.of hv, hv2, post_ok (E := E) p r _ rv2⟩)
          · exact False.elim p
        · exact False.elim p
      · rename_i g
        obtain ⟨vks, hv, rv⟩ := r.at g h1
        split at p
        · rename_i k hk
          have e1 := key_rv hy hk
          subst e1
          split at p
          · rename_i d1 hd
            obtain ⟨v, hv2, rv2⟩ := (valD_rv rv).1 d1 hd
            refine .inr ⟨_, v, rfl, ?_, post_ok (E := E) p r _ rv2⟩
            rw [← hv2]
            exact DGet.k hv
          · exact False.elim p
        · exact False.elim p
      · exact False.elim p
  · exact False.elim p

/-! ### x[i] = v -/
def setIx : D → D → D → Store → R Unit
  | .ref n, k, v, S => match S.get n with
    | some (.lst ds) => match k with
      | .int i => match ixN ds.length i with
        | some j => .ok () (S.set n (.lst (ds.set j v)))
        | none => .bad
      | _ => .bad
    | some (.dct kvs) => match k.key with
      | some k => if fits (kvs.length + 1) = true then .ok () (S.set n (.dct (putKD kvs k v))) else .bad
      | none => .bad
    | _ => .bad
  | _, _, _, _ => .bad
def mGSub (mo mi : ME) : MG := fun v ρ S => (mo ρ S).bind fun o S1 => (mi ρ S1).bind fun i S2 => (setIx o i v S2).bind fun _ S3 => .ok ρ S3
abbrev rSetU : V → V → V → Hp → (Hp → Prop) → Prop := fun o i v H Q => rSetL o i v H Q ∨ rSetD o i v H Q
theorem set_u (hu : X.A.units + 1 < cLine) : PSet X rSetU := by
  intro pins s σ H o i v ov iv u Q I ro ri rv h
  rcases h with h | h
  · exact set_list pins s σ H o i v ov iv u Q I ro ri rv h
  · exact set_dict hu pins s σ H o i v ov iv u Q I ro ri rv h
theorem mg_sub {mo mi : ME} {i : Expr} (hu : X.A.units + 1 < cLine) (ho : PE X o (tM (G.mk X.K cls) E mo)) (hi : PE X i (tM (G.mk X.K cls) E mi))
    (ha : ∀ v, assign (.Subscript o i pos) X.env v = (do
      let ov ← holding [v] (eval o X.env)
      let iv ← holding [v, ov] (eval i X.env)
      standAt pos
      holding [v, ov, iv] (setItem ov iv v)
      release [v, ov, iv] []) := by intro _; rfl) : PG X (.Subscript o i pos) (tMG (G.mk X.K cls) E (mGSub mo mi)) := by
  refine pgI (pg_sub ho hi (set_u hu) ha) ?_
  rintro v σ H Q ⟨F, α, ρ, S, d, at_, rv, p⟩
  refine ⟨F, α, ρ, S, at_, post_mono (post_bind p) fun α1 S1 H1 d1 e1 p1 r1 q v1 rv1 => ?_⟩
  refine ⟨F, α1, ρ, S1, at_.later e1 p1 r1, post_mono (post_bind q) fun α2 S2 H2 d2 e2 p2 r2 q2 v2 rv2 => ?_⟩
  have rv1' := rv1.mono e2 p2
  have rv' := (rv.mono e1 p1).mono e2 p2
  have re' := (at_.re.mono e1 p1).mono e2 p2
  unfold setIx at q2
  split at q2
  · cases rv1' with
    | ref hn =>
      rename_i aa
      split at q2
      · rename_i ds g
        obtain ⟨vs, hv, rvs⟩ := r2.at g hn
        split at q2
        · cases rv2
          split at q2
          · rename_i j hj
            have eu := Ext.upd hv (by exact trivial) (HO.lst (vs.set j v))
            have rp : Rep (G.mk X.K cls) F α2 (S2.set _ (.lst (ds.set j d))) (upd H2 aa (.lst (vs.set j v))) := r2.set hn hv ⟨_, upd_same, (rvs.set rv' j).mono eu (List.prefix_refl _)⟩
            refine .inl ⟨aa, vs, _, j, rfl, rfl, hv, by rw [rvs.length]; exact hj, ?_⟩
            exact post_ok (E := E) ((post_bind q2) α2 _ eu (List.prefix_refl _) rp) rp σ (re'.mono eu (List.prefix_refl _))
          · exact False.elim q2
        · exact False.elim q2
      · rename_i kvs g
        obtain ⟨vks, hv, rvs⟩ := r2.at g hn
        split at q2
        · rename_i k hk
          have e1 := key_rv rv2 hk
          subst e1
          by_cases hf : fits (kvs.length + 1) = true
          · rw [if_pos hf] at q2
            have eu := Ext.upd hv (by exact trivial) (HO.dK (putK vks k v))
            have rp : Rep (G.mk X.K cls) F α2 (S2.set _ (.dct (putKD kvs k d))) (upd H2 aa (.dK (putK vks k v))) := r2.set hn hv ⟨_, upd_same, (put_rv rv' rvs).mono eu (List.prefix_refl _)⟩
            refine .inr ⟨aa, _, rfl, DPut.k hv ?_, ?_⟩
            · rw [rvs.length]
              have := fits_le hf
              omega
            · exact post_ok (E := E) ((post_bind q2) α2 _ eu (List.prefix_refl _) rp) rp σ (re'.mono eu (List.prefix_refl _))
          · rw [if_neg hf] at q2
            exact False.elim q2
        · exact False.elim q2
      · exact False.elim q2
  · exact False.elim q2

/-! ### slices -/
abbrev MO := Env → Store → R (Option Int)
def tMO (Γ' : G) (E : XK) (m : MO) : TO := fun σ H Q => ∃ F α ρ S, At Γ' F σ H α ρ S ∧ post Γ' F α H (m ρ S) (fun _ _ H' i => Q i H') E
def asI : D → Store → R (Option Int)
  | .int i, S => .ok (some i) S
  | _, _ => .bad
def mNo : MO := fun _ S => .ok none S
def mSome (m : ME) : MO := fun ρ S => (m ρ S).bind asI
theorem mo_none : PO X none (tMO (G.mk X.K cls) E mNo) := poI po_none fun σ H Q ⟨F, α, ρ, S, at_, p⟩ => post_ok (E := E) p at_.rep
theorem mo_some {m : ME} (h : PE X e (tM (G.mk X.K cls) E m)) : PO X (some e) (tMO (G.mk X.K cls) E (mSome m)) := by
  refine poI (po_some h) ?_
  rintro σ H Q ⟨F, α, ρ, S, at_, p⟩
  refine ⟨F, α, ρ, S, at_, post_mono (post_bind p) fun α1 S1 H1 d e1 p1 r1 q v rv => ?_⟩
  unfold asI at q
  split at q
  · cases rv
    exact ⟨_, rfl, post_ok (E := E) q r1⟩
  · exact False.elim q
def cutD (ds : List D) (lo hi : Option Int) : List D := (ds.drop (HT.sIx ds.length 0 lo)).take (HT.sIx ds.length ds.length hi - HT.sIx ds.length 0 lo)
theorem cut_rv {K : PySem.W.Frag} {α : List Addr} {H : Hp} {vs : List V} {ds : List D} (r : RVs K α H vs ds) (lo hi : Option Int) : RVs K α H (cutV vs lo hi) (cutD ds lo hi) := by
  unfold cutV cutD
  rw [r.length]
  exact (r.drop _).take _
theorem cut_whole {K : PySem.W.Frag} {α : List Addr} {H : Hp} {vs : List V} {ds : List D} {l h : Option Int} (r : RVs K α H vs ds) (w : HT.sIx vs.length 0 l = 0 ∧ HT.sIx vs.length vs.length h = vs.length) : cutD ds l h = ds := by
  unfold cutD
  rw [← r.length, w.1, w.2, Nat.sub_zero, List.drop_zero, r.length, List.take_length]
def getSl : D → Option Int → Option Int → Store → R D
  | .tup ds, lo, hi, S => .ok (.tup (cutD ds lo hi)) S
  | .str z, lo, hi, S => if fits z.length = true then .ok (.str (cutS z lo hi)) S else .bad
  | .rl ds, lo, hi, S => .ok (.ref S.next) (S.push (.lst (cutD ds lo hi)))
  | .ref n, lo, hi, S => match S.get n with
    | some (.lst ds) => .ok (.ref S.next) (S.push (.lst (cutD ds lo hi)))
    | _ => .bad
  | _, _, _, _ => .bad
def mSl (m : ME) (ml mh : MO) : ME := fun ρ S => (m ρ S).bind fun d S1 => (ml ρ S1).bind fun l S2 => (mh ρ S2).bind fun h S3 => getSl d l h S3
abbrev rSlU (K : PySem.W.Frag) : V → Option Int → Option Int → Hp → VK → Prop := fun x lo hi H Q => (rSlA K x lo hi H Q ∨ rSlS x lo hi H Q) ∨ rSlL K x lo hi H Q
theorem sl_u : SlR X (rSlU X.K) := (sl_tupA.or sl_str).or sl_list
theorem me_slice {m : ME} {ml mh : MO} {lo hi : Option Expr} {p2 : Pos} (he : PE X e (tM (G.mk X.K cls) E m)) (hl : PO X lo (tMO (G.mk X.K cls) E ml)) (hh : PO X hi (tMO (G.mk X.K cls) E mh)) : PE X (.Subscript e (.Slice lo hi none p2) pos) (tM (G.mk X.K cls) E (mSl m ml mh)) := by
  refine peI (pe_slice sl_u he hl hh) ?_
  rintro σ H Q ⟨F, α, ρ, S, at_, p⟩
  refine ⟨F, α, ρ, S, at_, post_mono (post_bind p) fun α1 S1 H1 d e1 p1 r1 q v rv => ?_⟩
  refine ⟨F, α1, ρ, S1, at_.later e1 p1 r1, post_mono (post_bind q) fun α2 S2 H2 l e2 p2 r2 q2 => ?_⟩
  refine ⟨F, α2, ρ, S2, (at_.later e1 p1 r1).later e2 p2 r2, post_mono (post_bind q2) fun α3 S3 H3 h e3 p3 r3 q3 => ?_⟩
  have rv := (rv.mono e2 p2).mono e3 p3
  unfold getSl at q3
  split at q3
  · cases rv with
    | tup h1 s1 =>
      refine .inl (.inl ⟨_, _, rfl, h1.sq, fun w => ?_, fun w pp hp => ?_⟩)
      · refine post_ok (E := E) q3 r3 _ ?_
        rw [cut_whole s1 w]
        exact .tup h1 s1
      · exact q3 α3 _ (Ext.new hp _) (List.prefix_refl _) (r3.beside hp _) _ (.tup (.inl upd_same) ((cut_rv s1 l h).mono (Ext.new hp _) (List.prefix_refl _)))
  · cases rv
    obtain ⟨hf, q3⟩ := post_fits (X := X) (cls := cls) q3
    exact .inl (.inr ⟨_, rfl, fits_le hf, post_ok (E := E) q3 r3 _ (.str _)⟩)
  · cases rv with
    | rl h1 s1 =>
      refine .inr ⟨_, _, rfl, h1.sq, fun pp hp => ?_⟩
      obtain ⟨c1, c2⟩ := newL r3 (cut_rv s1 l h) q3 pp hp
      exact c1 _ c2
  · cases rv with
    | ref h1 =>
      split at q3
      · rename_i g
        obtain ⟨vs, hv, rvs⟩ := r3.at g h1
        refine .inr ⟨_, _, rfl, SqL.of hv, fun pp hp => ?_⟩
        obtain ⟨c1, c2⟩ := newL r3 (cut_rv rvs l h) q3 pp hp
        exact c1 _ c2
      · exact False.elim q3
  · exact False.elim q3

/-! ### methods of built-in types -/
def isLst (d : D) (S : Store) : Bool := match d with
  | .ref n => match S.get n with
    | some (.lst _) => true
    | _ => false
  | .rl _ => true
  | _ => false
def isDct (d : D) (S : Store) : Bool := match d with
  | .ref n => match S.get n with
    | some (.dct _) => true
    | _ => false
  | _ => false
def isStr (d : D) (S : Store) : Bool := match d with
  | .str _ => true
  | _ => false
structure BmM (X : Cx) (cls : Str → Addr) (E : XK) (T : String) (r : V → List V → Hp → VK → Prop) (chk : D → Store → Bool) (g : D → List D → Store → R D) : Prop where
  ty : ∀ F α S H x d, Rep ⟨X.K, cls⟩ F α S H → RV X.K α H x d → chk d S = true → tyV X.K T x H
  does : ∀ F α S H x d vs ds Q, Rep ⟨X.K, cls⟩ F α S H → RV X.K α H x d → RVs X.K α H vs ds → post ⟨X.K, cls⟩ F α H (g d ds S) (CV ⟨X.K, cls⟩ Q) E → r x vs H Q
def mBM (chk : D → Store → Bool) (g : D → List D → Store → R D) (mo : ME) (ma : MAs) : ME := fun ρ S => (mo ρ S).bind fun o S1 => if chk o S1 = true then (ma ρ S1).bind fun ds S2 => g o ds S2 else .bad
theorem me_bm {T id : String} {name : Str} {apos cpos : Pos} {r : V → List V → Hp → VK → Prop} {chk : D → Store → Bool} {g : D → List D → Store → R D} {mo : ME} {ma : MAs} (pa : PlainAttrs T) (slot : Slot T name id) (hty : typeOf (.builtin id) = pure (.type "method_descriptor")) (hm : MtR X id r) (hr : BmM X cls E T r chk g)
    (ho : PE X o (tM (G.mk X.K cls) E mo)) (ha : PA X (e :: es) (tMA (G.mk X.K cls) E ma))
    (hbase : attributeBase o name X.env (eval o X.env) = eval o X.env := by rfl)
    (hfew : ((backTo cpos (starEach (e :: es) X.env)).all (fun x => !x.1) && (backToKw cpos (keywordEach [] X.env)).all (fun x => x.1.isSome)
      && decide ((e :: es).length + ([] : List Keyword).length + (if ([] : List Keyword).isEmpty then 0 else 1) < 30)) = true := by rfl)
    (hline : (apos.endLine == cpos.line) = true := by rfl) (hs : starEach (e :: es) X.env = (false, eval e X.env) :: starEach es X.env := by rfl) (hplain : (backTo cpos (starEach es X.env)).any (·.1) = false := by rfl) :
    PE X (.Call (.Attribute o name apos) (e :: es) [] cpos) (tM (G.mk X.K cls) E (mBM chk g mo ma)) := by
  refine peI (pe_bm pa slot hty hm ho ha hbase hfew hline hs hplain) ?_
  rintro σ H Q ⟨F, α, ρ, S, at_, p⟩
  refine ⟨F, α, ρ, S, at_, post_mono (post_bind p) fun α1 S1 H1 d e1 p1 r1 q v rv => ?_⟩
  obtain ⟨hc, q⟩ := post_if (X := X) (cls := cls) q
  refine ⟨hr.ty F α1 S1 H1 v d r1 rv hc, F, α1, ρ, S1, at_.later e1 p1 r1, post_mono (post_bind q) fun α2 S2 H2 ds e2 p2 r2 q2 vs rvs => ?_⟩
  exact hr.does F α2 S2 H2 v d vs ds Q r2 (rv.mono e2 p2) rvs q2
theorem me_bm0 {T id : String} {name : Str} {apos cpos : Pos} {r : V → List V → Hp → VK → Prop} {chk : D → Store → Bool} {g : D → List D → Store → R D} {mo : ME} (pa : PlainAttrs T) (slot : Slot T name id) (hty : typeOf (.builtin id) = pure (.type "method_descriptor")) (hm : MtR X id r) (hr : BmM X cls E T r chk g)
    (ho : PE X o (tM (G.mk X.K cls) E mo)) (hbase : attributeBase o name X.env (eval o X.env) = eval o X.env := by rfl) (hline : (apos.endLine == cpos.line) = true := by rfl) :
    PE X (.Call (.Attribute o name apos) [] [] cpos) (tM (G.mk X.K cls) E (mBM chk g mo mNil)) := by
  refine peI (pe_bm0 pa slot hty hm ho hbase hline) ?_
  rintro σ H Q ⟨F, α, ρ, S, at_, p⟩
  refine ⟨F, α, ρ, S, at_, post_mono (post_bind p) fun α1 S1 H1 d e1 p1 r1 q v rv => ?_⟩
  obtain ⟨hc, q⟩ := post_if (X := X) (cls := cls) q
  exact ⟨hr.ty F α1 S1 H1 v d r1 rv hc, hr.does F α1 S1 H1 v d [] [] Q r1 rv .nil q⟩
theorem ty_lst : ∀ F α S H x d, Rep (G.mk X.K cls) F α S H → RV X.K α H x d → isLst d S = true → tyV X.K "list" x H := by
  intro F α S H x d r rv h
  unfold isLst at h
  split at h
  · split at h
    · rename_i g
      cases rv with
      | ref h1 =>
        obtain ⟨vs, hv, _⟩ := r.at g h1
        exact .inl ⟨rfl, vs, SqL.of hv⟩
    · cases h
  · cases rv with
    | rl h1 _ => exact .inl ⟨rfl, _, h1.sq⟩
  · cases h
theorem ty_dct : ∀ F α S H x d, Rep (G.mk X.K cls) F α S H → RV X.K α H x d → isDct d S = true → tyV X.K "dict" x H := by
  intro F α S H x d r rv h
  unfold isDct at h
  split at h
  · split at h
    · rename_i g
      cases rv with
      | ref h1 =>
        obtain ⟨vs, hv, _⟩ := r.at g h1
        exact .inr (.inr (.inl ⟨rfl, .inl ⟨vs, hv⟩⟩))
    · cases h
  · cases h
theorem ty_str : ∀ F α S H x d, Rep (G.mk X.K cls) F α S H → RV X.K α H x d → isStr d S = true → tyV X.K "str" x H := by
  intro F α S H x d r rv h
  unfold isStr at h
  split at h
  · cases rv
    rfl
  · cases h
/-- a list of the store changes -/
theorem setL {F : List (Addr × HO)} {α : List Addr} {H : Hp} {S : Store} {n : Nat} {a : Addr} {vs ws : List V} {es : List D} {d : D} {C : List Addr → Store → Hp → D → Prop} (r : Rep (G.mk X.K cls) F α S H) (hn : α[n]? = some a) (hv : H a = some (.lst vs)) (rv : RVs X.K α H ws es)
    (p : post (G.mk X.K cls) F α H (.ok d (S.set n (.lst es))) C E) : C α (S.set n (.lst es)) (upd H a (.lst ws)) d :=
  p α _ (Ext.upd hv (by exact trivial) _) (List.prefix_refl _) (r.set hn hv ⟨ws, upd_same, rv.mono (Ext.upd hv (by exact trivial) _) (List.prefix_refl _)⟩)
def bAppend : D → List D → Store → R D
  | .ref n, [y], S => match S.get n with
    | some (.lst ds) => if fits ds.length = true then .ok .non (S.set n (.lst (ds ++ [y]))) else .bad
    | _ => .bad
  | _, _, _ => .bad
theorem bm_append : BmM X cls E "list" rAppend isLst bAppend := by
  refine ⟨ty_lst, fun F α S H x d vs ds Q r rv rvs p => ?_⟩
  unfold bAppend at p
  split at p
  · cases rvs with
    | cons ry rn =>
      cases rn
      cases rv with
      | ref h1 =>
        split at p
        · rename_i g
          obtain ⟨ws, hv, rw'⟩ := r.at g h1
          obtain ⟨hf, p⟩ := post_fits (X := X) (cls := cls) p
          refine ⟨_, ws, _, rfl, rfl, hv, by rw [rw'.length]; exact fits_lt hf, ?_⟩
          exact setL r h1 hv (rw'.append (.cons ry .nil)) p _ .non
        · exact False.elim p
  · exact False.elim p
def bExtend : D → List D → Store → R D
  | .ref n, [.ref m], S => match S.get n, S.get m with
    | some (.lst ds), some (.lst es) => if fits (ds.length + es.length) = true then .ok .non (S.set n (.lst (ds ++ es))) else .bad
    | _, _ => .bad
  | _, _, _ => .bad
theorem bm_extend : BmM X cls E "list" rExtend isLst bExtend := by
  refine ⟨ty_lst, fun F α S H x d vs ds Q r rv rvs p => ?_⟩
  unfold bExtend at p
  split at p
  · cases rvs with
    | cons ry rn =>
      cases rn
      cases rv with
      | ref h1 =>
        cases ry with
        | ref h2 =>
          split at p
          · rename_i g1 g2
            obtain ⟨ws, hv, rw'⟩ := r.at g1 h1
            obtain ⟨zs, hz, rz⟩ := r.at g2 h2
            obtain ⟨hf, p⟩ := post_fits (X := X) (cls := cls) p
            refine ⟨_, _, ws, zs, rfl, rfl, hv, hz, by rw [rw'.length, rz.length]; exact fits_le hf, ?_⟩
            exact setL r h1 hv (rw'.append rz) p _ .non
          · exact False.elim p
  · exact False.elim p
def bPop : D → List D → Store → R D
  | .ref n, [], S => match S.get n with
    | some (.lst ds) => match ds[ds.length - 1]? with
      | some d => .ok d (S.set n (.lst ds.dropLast))
      | none => .bad
    | _ => .bad
  | _, _, _ => .bad
theorem bm_pop : BmM X cls E "list" rPop isLst bPop := by
  refine ⟨ty_lst, fun F α S H x d vs ds Q r rv rvs p => ?_⟩
  unfold bPop at p
  split at p
  · cases rvs
    cases rv with
    | ref h1 =>
      split at p
      · rename_i g
        obtain ⟨ws, hv, rw'⟩ := r.at g h1
        split at p
        · rename_i hd
          obtain ⟨v, hv2, rv2⟩ := rw'.get hd
          refine ⟨_, ws, v, rfl, rfl, hv, by rw [rw'.length]; exact hv2, ?_⟩
          exact setL r h1 hv rw'.dropLast p _ (rv2.mono (Ext.upd hv (by exact trivial) _) (List.prefix_refl _))
        · exact False.elim p
      · exact False.elim p
  · exact False.elim p
/-- the first place -/
def firstD (y : D) : List D → Nat → Option Nat
  | [], _ => none
  | d :: ds, k => if d.eqF y = true then some k else firstD y ds (k + 1)
theorem firstD_ok {y : D} : ∀ {ds : List D} {k j : Nat}, firstD y ds k = some j → k ≤ j ∧ (∃ z, ds[j - k]? = some z ∧ z.eqF y = true) ∧ ∀ m z, m < j - k → ds[m]? = some z → z.eqF y = false
  | [], _, _, h => by cases h
  | d :: ds, k, j, h => by
    unfold firstD at h
    by_cases c : d.eqF y = true
    · rw [if_pos c] at h
      cases h
      exact ⟨Nat.le_refl _, ⟨d, by simp, c⟩, fun m z hm => absurd hm (by omega)⟩
    · rw [if_neg c] at h
      obtain ⟨h1, ⟨z, hz, hq⟩, h3⟩ := firstD_ok h
      refine ⟨by omega, ⟨z, ?_, hq⟩, fun m w hm hw => ?_⟩
      · have e : j - k = (j - (k + 1)) + 1 := by omega
        rw [e]
        exact hz
      · cases m with
        | zero =>
          cases hw
          exact Bool.eq_false_iff.mpr c
        | succ m => exact h3 m w (by omega) hw
def bIndex : D → List D → Store → R D
  | .ref n, [y], S => match S.get n with
    | some (.lst ds) => if (y.flat && ds.all D.flat) = true then match firstD y ds 0 with
      | some j => .ok (.int (j : Nat)) S
      | none => .bad else .bad
    | _ => .bad
  | _, _, _ => .bad
theorem bm_index : BmM X cls E "list" (rIndex X.K) isLst bIndex := by
  refine ⟨ty_lst, fun F α S H x d vs ds Q r rv rvs p => ?_⟩
  unfold bIndex at p
  split at p
  · cases rvs with
    | cons ry rn =>
      cases rn
      cases rv with
      | ref h1 =>
        split at p
        · rename_i g
          obtain ⟨ws, hv, rw'⟩ := r.at g h1
          obtain ⟨hf, p⟩ := post_if (X := X) (cls := cls) p
          rw [Bool.and_eq_true] at hf
          split at p
          · rename_i j hj
            obtain ⟨_, ⟨z, hz, hq⟩, h3⟩ := firstD_ok hj
            obtain ⟨w, hw, rz⟩ := rw'.get hz
            refine ⟨_, ws, _, j, w, rfl, rfl, SqL.of hv, by rw [flat_rv ry]; exact hf.1, by rw [flats_rv rw']; exact hf.2, hw, by rw [eqF_rv rz ry]; exact hq, fun m z' hm hz' => ?_, post_ok (E := E) p r _ (.int _)⟩
            obtain ⟨d', hd', rd'⟩ := rw'.getV hz'
            rw [eqF_rv rd' ry]
            exact h3 m d' hm hd'
          · exact False.elim p
        · exact False.elim p
  · exact False.elim p
end
end MM

/-! The mirror layer, part H: built-in functions, isinstance, repr; the end of a law. -/
namespace MM
open PySem L2 PyProof.Rows PySem.Spec
section
variable {X : Cx} {cls : Str → Addr} {E : XK} {x : Str} {e a b c o : Expr} {es : List Expr} {pos p : Pos} {st : Stmt} {sts : List Stmt} {tg : Expr}
/-- a built-in's reading is told by g -/
def CallM (X : Cx) (cls : Str → Addr) (E : XK) (r : List V → Hp → VK → Prop) (g : List D → Store → R D) : Prop :=
  ∀ F α S H vs ds Q, Rep ⟨X.K, cls⟩ F α S H → RVs X.K α H vs ds → post ⟨X.K, cls⟩ F α H (g ds S) (CV ⟨X.K, cls⟩ Q) E → r vs H Q
theorem callB_reads {r : List V → Hp → VK → Prop} {g : List D → Store → R D} {ma : MAs} (hr : CallM X cls E r g) : ∀ σ H Q, tM (G.mk X.K cls) E (mCall g ma) σ H Q → tCB r (tMA (G.mk X.K cls) E ma) σ H Q := by
  rintro σ H Q ⟨F, α, ρ, S, at_, p⟩
  exact ⟨F, α, ρ, S, at_, post_mono (post_bind p) fun α1 S1 H1 ds e1 p1 r1 q vs rvs => hr F α1 S1 H1 vs ds Q r1 rvs q⟩
theorem me_callB {id : String} {r : List V → Hp → VK → Prop} {g : List D → Store → R D} {ma : MAs} (hc : CallR X (.builtin id) r) (hr : CallM X cls E r g) (hg : Gl X x) (hm : X.mg x = none) (hv : bootBuiltins x = some (.builtin id)) (ha : PA X (e :: es) (tMA (G.mk X.K cls) E ma))
    (hn : x ≠ "__name__" := by decide) (hdb : (x == ("__debug__" : Str)) = false := by decide)
    (he : starEach (e :: es) X.env = (false, eval e X.env) :: starEach es X.env := by rfl) (hpl : (backTo pos (starEach es X.env)).any (·.1) = false := by rfl) : PE X (.Call (.Name x p) (e :: es) [] pos) (tM (G.mk X.K cls) E (mCall g ma)) :=
  peI (pe_callB hc hg hm hv ha hn hdb he hpl) (callB_reads hr)
theorem me_callTy {T : String} {r : List V → Hp → VK → Prop} {g : List D → Store → R D} {ma : MAs} (hc : CallR X (.type T) r) (hr : CallM X cls E r g) (hg : Gl X x) (hm : X.mg x = none) (hv : bootBuiltins x = some (.type T)) (ha : PA X (e :: es) (tMA (G.mk X.K cls) E ma))
    (hn : x ≠ "__name__" := by decide) (hdb : (x == ("__debug__" : Str)) = false := by decide)
    (he : starEach (e :: es) X.env = (false, eval e X.env) :: starEach es X.env := by rfl) (hpl : (backTo pos (starEach es X.env)).any (·.1) = false := by rfl) : PE X (.Call (.Name x p) (e :: es) [] pos) (tM (G.mk X.K cls) E (mCall g ma)) :=
  peI (pe_callTy hc hg hm hv ha hn hdb he hpl) (callB_reads hr)
/-- one argument, a new list -/
def CallML (X : Cx) (cls : Str → Addr) (E : XK) (r : List V → Hp → VK → Prop) (g : List D → Store → R D) : Prop :=
  ∀ F α S H q vs ds Q, Rep ⟨X.K, cls⟩ F α S H → H q = some (.lst vs) → RVs X.K α H vs ds → post ⟨X.K, cls⟩ F α H (g ds S) (CV ⟨X.K, cls⟩ Q) E → r [.ref q] H Q
theorem callL_reads {r : List V → Hp → VK → Prop} {g : List D → Store → R D} {ml : MAs} (hr : CallML X cls E r g) : ∀ σ H Q, tM (G.mk X.K cls) E (mCall g ml) σ H Q → tCB r (tCons (tML (G.mk X.K cls) E ml) tNil) σ H Q := by
  rintro σ H Q ⟨F, α, ρ, S, at_, p⟩
  exact ⟨F, α, ρ, S, at_, post_mono (post_bind p) fun α1 S1 H1 ds e1 p1 r1 q pp vs hp hn hF rvs => hr F α1 S1 H1 pp vs ds Q r1 hp rvs q⟩
theorem me_callBL {id : String} {r : List V → Hp → VK → Prop} {g : List D → Store → R D} {ml : MAs} (hc : CallR X (.builtin id) r) (hr : CallML X cls E r g) (hg : Gl X x) (hm : X.mg x = none) (hv : bootBuiltins x = some (.builtin id)) (ha : PE X e (tML (G.mk X.K cls) E ml))
    (hn : x ≠ "__name__" := by decide) (hdb : (x == ("__debug__" : Str)) = false := by decide)
    (he : starEach [e] X.env = (false, eval e X.env) :: starEach [] X.env := by rfl) (hpl : (backTo pos (starEach [] X.env)).any (·.1) = false := by rfl) : PE X (.Call (.Name x p) [e] [] pos) (tM (G.mk X.K cls) E (mCall g ml)) :=
  peI (pe_callB hc hg hm hv (pa_cons ha pa_nil he) hn hdb he hpl) (callL_reads hr)
theorem me_callTyL {T : String} {r : List V → Hp → VK → Prop} {g : List D → Store → R D} {ml : MAs} (hc : CallR X (.type T) r) (hr : CallML X cls E r g) (hg : Gl X x) (hm : X.mg x = none) (hv : bootBuiltins x = some (.type T)) (ha : PE X e (tML (G.mk X.K cls) E ml))
    (hn : x ≠ "__name__" := by decide) (hdb : (x == ("__debug__" : Str)) = false := by decide)
    (he : starEach [e] X.env = (false, eval e X.env) :: starEach [] X.env := by rfl) (hpl : (backTo pos (starEach [] X.env)).any (·.1) = false := by rfl) : PE X (.Call (.Name x p) [e] [] pos) (tM (G.mk X.K cls) E (mCall g ml)) :=
  peI (pe_callTy hc hg hm hv (pa_cons ha pa_nil he) hn hdb he hpl) (callL_reads hr)

/-! ### len, abs, int, max, min, divmod -/
def bLen : List D → Store → R D
  | [.str z], S => if fits z.length = true then .ok (.int (z.length : Nat)) S else .bad
  | [.tup ds], S => .ok (.int (ds.length : Nat)) S
  | [.rl ds], S => .ok (.int (ds.length : Nat)) S
  | [.ref n], S => match S.get n with
    | some (.lst ds) => .ok (.int (ds.length : Nat)) S
    | some (.dct kvs) => .ok (.int (kvs.length : Nat)) S
    | _ => .bad
  | _, _ => .bad
abbrev rLenU (K : PySem.W.Frag) : List V → Hp → VK → Prop := fun xs H Q => (∃ x n, xs = [x] ∧ LenV K x H n ∧ Q (.int n) H) ∨ ∃ a kvs, xs = [V.ref a] ∧ H a = some (.dK kvs) ∧ Q (.int kvs.length) H
theorem cr_len : CallR X (.builtin "len") (rLenU X.K) := call_len.or call_lenD
theorem cm_len : CallM X cls E (rLenU X.K) bLen := by
  intro F α S H vs ds Q r rv p
  unfold bLen at p
  split at p
  · cases rv with
    | cons h hn =>
      cases hn; cases h
      obtain ⟨hf, p⟩ := post_fits (X := X) (cls := cls) p
      exact .inl ⟨_, _, rfl, ⟨fits_le hf, rfl⟩, post_ok (E := E) p r _ (.int _)⟩
  · cases rv with
    | cons h hn =>
      cases hn
      cases h with
      | tup h1 s1 => exact .inl ⟨_, _, rfl, .inr ⟨_, h1.sq, s1.length.symm⟩, post_ok (E := E) p r _ (.int _)⟩
  · cases rv with
    | cons h hn =>
      cases hn
      cases h with
      | rl h1 s1 => exact .inl ⟨_, _, rfl, .inl ⟨_, h1.sq, s1.length.symm⟩, post_ok (E := E) p r _ (.int _)⟩
  · cases rv with
    | cons h hn =>
      cases hn
      cases h with
      | ref h1 =>
        split at p
        · rename_i g
          obtain ⟨ws, hv, rw'⟩ := r.at g h1
          exact .inl ⟨_, _, rfl, .inl ⟨_, SqL.of hv, rw'.length.symm⟩, post_ok (E := E) p r _ (.int _)⟩
        · rename_i g
          obtain ⟨ws, hv, rw'⟩ := r.at g h1
          refine .inr ⟨_, ws, rfl, hv, ?_⟩
          rw [rw'.length]
          exact post_ok (E := E) p r _ (.int _)
        · exact False.elim p
  · exact False.elim p
def bAbs : List D → Store → R D
  | [.int i], S => .ok (.int (if i < 0 then -i else i)) S
  | _, _ => .bad
theorem cm_abs : CallM X cls E (fun xs H Q => ∃ i, xs = [.int i] ∧ Q (.int (if i < 0 then -i else i)) H) bAbs := by
  intro F α S H vs ds Q r rv p
  unfold bAbs at p
  split at p
  · cases rv with
    | cons h hn => cases hn; cases h; exact ⟨_, rfl, post_ok (E := E) p r _ (.int _)⟩
  · exact False.elim p
def bInt : List D → Store → R D
  | [.int i], S => .ok (.int i) S
  | [.bl k], S => .ok (.int (if k then 1 else 0)) S
  | _, _ => .bad
theorem cm_int : CallM X cls E (fun xs H Q => (∃ i, xs = [.int i] ∧ Q (.int i) H) ∨ ∃ k, xs = [.bl k] ∧ Q (.int (if k then 1 else 0)) H) bInt := by
  intro F α S H vs ds Q r rv p
  unfold bInt at p
  split at p
  · cases rv with
    | cons h hn => cases hn; cases h; exact .inl ⟨_, rfl, post_ok (E := E) p r _ (.int _)⟩
  · cases rv with
    | cons h hn => cases hn; cases h; exact .inr ⟨_, rfl, post_ok (E := E) p r _ (.int _)⟩
  · exact False.elim p
def bTwo (g : Int → Int → D) : List D → Store → R D
  | [.int i, .int j], S => .ok (g i j) S
  | _, _ => .bad
def bMax2 := bTwo fun i j => .int (if j > i then j else i)
def bMin2 := bTwo fun i j => .int (if j < i then j else i)
theorem bTwo_ok {F : List (Addr × HO)} {α : List Addr} {H : Hp} {S : Store} {g : Int → Int → D} {vs : List V} {ds : List D} {C : List Addr → Store → Hp → D → Prop} (r : Rep (G.mk X.K cls) F α S H) (rv : RVs X.K α H vs ds) (p : post (G.mk X.K cls) F α H (bTwo g ds S) C E) :
    ∃ i j, vs = [.int i, .int j] ∧ C α S H (g i j) := by
  unfold bTwo at p
  split at p
  · cases rv with
    | cons h hn =>
      cases h
      cases hn with
      | cons h hn => cases hn; cases h; exact ⟨_, _, rfl, post_ok (E := E) p r⟩
  · exact False.elim p
theorem cm_max2 : CallM X cls E (fun xs H Q => ∃ i j, xs = [.int i, .int j] ∧ Q (.int (if j > i then j else i)) H) bMax2 := fun F α S H vs ds Q r rv p => let ⟨i, j, h, q⟩ := bTwo_ok r rv p; ⟨i, j, h, q _ (.int _)⟩
theorem cm_min2 : CallM X cls E (fun xs H Q => ∃ i j, xs = [.int i, .int j] ∧ Q (.int (if j < i then j else i)) H) bMin2 := fun F α S H vs ds Q r rv p => let ⟨i, j, h, q⟩ := bTwo_ok r rv p; ⟨i, j, h, q _ (.int _)⟩
def bDivmod : List D → Store → R D
  | [.int i, .int j], S => if 0 < j ∧ j.natAbs < 1073741824 then .ok (.tup [.int (i / j), .int (i % j)]) S else .bad
  | _, _ => .bad
theorem cm_divmod : CallM X cls E (fun xs H Q => ∃ i j, xs = [.int i, .int j] ∧ CDiv i j ∧ ∀ p, H p = none → Q (.ref p) (upd H p (.tup [.int (i / j), .int (i % j)]))) bDivmod := by
  intro F α S H vs ds Q r rv p
  unfold bDivmod at p
  split at p
  · cases rv with
    | cons h hn =>
      cases h
      cases hn with
      | cons h hn =>
        cases hn; cases h
        obtain ⟨hc, p⟩ := post_if (X := X) (cls := cls) p
        exact ⟨_, _, rfl, ⟨hc.1, by have h2 := hc.2; have h1 := hc.1; omega⟩, fun q hq => p α _ (Ext.new hq _) (List.prefix_refl _) (r.beside hq _) _ (.tup (.inl upd_same) (.cons (.int _) (.cons (.int _) .nil)))⟩
  · exact False.elim p
/-- the ints of a list -/
def intsD : List D → Option (List Int)
  | [] => some []
  | .int i :: ds => match intsD ds with
    | some is => some (i :: is)
    | none => none
  | _ :: _ => none
theorem ints_rv {K : PySem.W.Frag} {α : List Addr} {H : Hp} : ∀ {vs : List V} {ds : List D} {is : List Int}, RVs K α H vs ds → intsD ds = some is → vs = is.map V.int
  | _, _, _, .nil, h => by cases h; rfl
  | _, _, _, .cons r rs, h => by
    cases r with
    | int i =>
      unfold intsD at h
      split at h
      · rename_i is hi
        cases h
        rw [List.map_cons, ints_rv rs hi]
      · cases h
    | _ => cases h
def minL (i : Int) : List Int → Int
  | [] => i
  | j :: js => minL (if j < i then j else i) js
theorem minL_ok : ∀ (js : List Int) (i m : Int), m ∈ i :: js → (∀ y ∈ i :: js, m ≤ y) → m = minL i js
  | [], i, m, h, _ => by simpa [minL] using h
  | j :: js, i, m, h, k => by
    unfold minL
    refine minL_ok js _ m ?_ fun y hy => ?_
    · have h1 := k i (by simp)
      have h2 := k j (by simp)
      simp only [List.mem_cons] at h ⊢
      split <;> rcases h with h | h | h <;> first | exact .inr h | exact .inl (by omega)
    · simp only [List.mem_cons] at hy
      rcases hy with rfl | hy
      · split
        · exact k j (by simp)
        · exact k i (by simp)
      · exact k y (by simp [hy])
def bMinL : List D → Store → R D
  | [.ref n], S => match S.get n with
    | some (.lst ds) => match intsD ds with
      | some (i :: is) => .ok (.int (minL i is)) S
      | _ => .bad
    | _ => .bad
  | _, _ => .bad
theorem cm_minL : CallM X cls E (rMin X.K) bMinL := by
  intro F α S H vs ds Q r rv p
  unfold bMinL at p
  split at p
  · cases rv with
    | cons h hn =>
      cases hn
      cases h with
      | ref h1 =>
        split at p
        · rename_i g
          obtain ⟨ws, hv, rw'⟩ := r.at g h1
          split at p
          · rename_i i is hi
            have e := ints_rv rw' hi
            refine ⟨_, i :: is, rfl, SqL.of (by rw [hv, e]), by simp, fun m hm hk => ?_⟩
            rw [minL_ok is i m hm hk]
            exact post_ok (E := E) p r _ (.int _)
          · exact False.elim p
        · exact False.elim p
  · exact False.elim p
/-- the truth values of a list -/
def boolsD : List D → Option (List Bool)
  | [] => some []
  | .bl i :: ds => match boolsD ds with
    | some is => some (i :: is)
    | none => none
  | _ :: _ => none
theorem bools_rv {K : PySem.W.Frag} {α : List Addr} {H : Hp} : ∀ {vs : List V} {ds : List D} {is : List Bool}, RVs K α H vs ds → boolsD ds = some is → vs = is.map V.bl
  | _, _, _, .nil, h => by cases h; rfl
  | _, _, _, .cons r rs, h => by
    cases r with
    | bl i =>
      unfold boolsD at h
      split at h
      · rename_i is hi
        cases h
        rw [List.map_cons, bools_rv rs hi]
      · cases h
    | _ => cases h
/-- all, any of a new list -/
def bAll (ds : List D) (S : Store) : R D := match boolsD ds with
  | some bs => .ok (.bl (bs.all id)) S
  | none => .bad
def bAny (ds : List D) (S : Store) : R D := match boolsD ds with
  | some bs => .ok (.bl (bs.any id)) S
  | none => .bad
theorem cm_all : CallML X cls E (rAll X.K) bAll := by
  intro F α S H q vs ds Q r hq rv p
  unfold bAll at p
  split at p
  · rename_i bs h
    have e := bools_rv rv h
    exact ⟨q, bs, rfl, SqL.of (by rw [hq, e]), post_ok (E := E) p r _ (.bl _)⟩
  · exact False.elim p
theorem cm_any : CallML X cls E (rAny X.K) bAny := by
  intro F α S H q vs ds Q r hq rv p
  unfold bAny at p
  split at p
  · rename_i bs h
    have e := bools_rv rv h
    exact ⟨q, bs, rfl, SqL.of (by rw [hq, e]), post_ok (E := E) p r _ (.bl _)⟩
  · exact False.elim p
abbrev rTupU (K : PySem.W.Frag) : List V → Hp → VK → Prop := fun xs H Q => ∃ p ys, xs = [.ref p] ∧ ((SqL K H p ys ∧ ∀ l, H l = none → Q (.ref l) (upd H l (.tup ys))) ∨ (SqT K H p ys ∧ Q (.ref p) H))
/-- tuple of a new list; of a list, of a tuple -/
def bTupL (ds : List D) (S : Store) : R D := .ok (.tup ds) S
theorem cm_tupL : CallML X cls E (rTupU X.K) bTupL := by
  intro F α S H q vs ds Q r hq rv p
  refine ⟨q, vs, rfl, .inl ⟨SqL.of hq, fun l hl => ?_⟩⟩
  exact p α _ (Ext.new hl _) (List.prefix_refl _) (r.beside hl _) _ (.tup (.inl upd_same) (rv.mono (Ext.new hl _) (List.prefix_refl _)))
def bTup : List D → Store → R D
  | [.ref n], S => match S.get n with
    | some (.lst ds) => .ok (.tup ds) S
    | _ => .bad
  | [.rl ds], S => .ok (.tup ds) S
  | [.tup ds], S => .ok (.tup ds) S
  | _, _ => .bad
theorem cm_tup : CallM X cls E (rTupU X.K) bTup := by
  intro F α S H vs ds Q r rv p
  have new : ∀ {q : Addr} {ws : List V} {es : List D}, SqL X.K H q ws → RVs X.K α H ws es → post (G.mk X.K cls) F α H (.ok (.tup es) S) (CV (G.mk X.K cls) Q) E → rTupU X.K [.ref q] H Q := by
    intro q ws es hs rw' p
    exact ⟨q, ws, rfl, .inl ⟨hs, fun l hl => p α _ (Ext.new hl _) (List.prefix_refl _) (r.beside hl _) _ (.tup (.inl upd_same) (rw'.mono (Ext.new hl _) (List.prefix_refl _)))⟩⟩
  unfold bTup at p
  split at p
  · cases rv with
    | cons h hn =>
      cases hn
      cases h with
      | ref h1 =>
        split at p
        · rename_i g
          obtain ⟨ws, hv, rw'⟩ := r.at g h1
          exact new (SqL.of hv) rw' p
        · exact False.elim p
  · cases rv with
    | cons h hn =>
      cases hn
      cases h with
      | rl h1 s1 => exact new h1.sq s1 p
  · cases rv with
    | cons h hn =>
      cases hn
      cases h with
      | tup h1 s1 => exact ⟨_, _, rfl, .inr ⟨h1.sq, post_ok (E := E) p r _ (.tup h1 s1)⟩⟩
  · exact False.elim p

/-! ### isinstance with a built-in type -/
def D.ty (S : Store) : D → Option String
  | .non => some "NoneType"
  | .bl _ => some "bool"
  | .int _ => some "int"
  | .str _ => some "str"
  | .tup _ => some "tuple"
  | .rl _ => some "list"
  | .ref n => match S.get n with
    | some (.lst _) => some "list"
    | some (.dct _) => some "dict"
    | _ => none
def tyNames : List String := ["NoneType", "bool", "int", "str", "tuple", "list", "dict"]
/-- what isinstance says of a value of the type t and the type T -/
def tyIs (T t : String) : Bool := t == T || (t == "bool" && T == "int")
def isB (T : String) (d : D) (S : Store) : R D := match d.ty S with
  | some t => .ok (.bl (tyIs T t)) S
  | none => .bad
def mIsB (T : String) (m : ME) : ME := fun ρ S => (m ρ S).bind (isB T)
theorem ty_rv {F : List (Addr × HO)} {α : List Addr} {H : Hp} {S : Store} {v : V} {d : D} {t : String} (r : Rep (G.mk X.K cls) F α S H) (rv : RV X.K α H v d) (h : d.ty S = some t) : TyX X.K H v (.type t) ∧ t ∈ tyNames := by
  unfold D.ty at h
  cases rv with
  | non => cases h; exact ⟨.base .non, by decide⟩
  | bl b => cases h; exact ⟨.base (.bl b), by decide⟩
  | int b => cases h; exact ⟨.base (.int b), by decide⟩
  | str b => cases h; exact ⟨.base (.str b), by decide⟩
  | tup h1 s1 =>
    cases h
    refine ⟨?_, by decide⟩
    rcases h1 with h1 | ⟨o, its, n, h1, h2, _⟩
    · exact .base (.tup h1)
    · exact .kTuple h1 h2
  | rl h1 s1 =>
    cases h
    refine ⟨?_, by decide⟩
    rcases h1 with ⟨o, h1⟩ | ⟨o, its, n, h1, h2, _⟩
    · exact .base (.frz h1)
    · exact .kList h1 h2
  | ref h1 =>
    simp only at h
    split at h
    · rename_i g
      cases h
      obtain ⟨ws, hv, _⟩ := r.at g h1
      exact ⟨.base (.lst hv), by decide⟩
    · rename_i g
      cases h
      obtain ⟨ws, hv, _⟩ := r.at g h1
      exact ⟨.base (.dK hv), by decide⟩
    · cases h
theorem me_isB {m : ME} {T : Str} {n : String} {q : Pos} (hg : Gl X "isinstance") (hm : X.mg "isinstance" = none) (hgT : Gl X T) (hmT : X.mg T = none) (hvT : bootBuiltins T = some (.type n)) (ha : PE X e (tM (G.mk X.K cls) E m)) (hk : ∀ t ∈ tyNames, kitB t n = some (tyIs n t) := by decide +kernel)
    (hnT : T ≠ "__name__" := by decide) (hdT : (T == ("__debug__" : Str)) = false := by decide)
    (h1 : starEach [e, .Name T q] X.env = (false, eval e X.env) :: starEach [.Name T q] X.env := by rfl) (h2 : starEach [.Name T q] X.env = (false, eval (.Name T q) X.env) :: starEach [] X.env := by rfl) (hpl : (backTo pos (starEach [.Name T q] X.env)).any (·.1) = false := by rfl) :
    PE X (.Call (.Name "isinstance" p) [e, .Name T q] [] pos) (tM (G.mk X.K cls) E (mIsB n m)) := by
  have ht : PE X (.Name T q) (tC (.ty n)) := pe_bltn hgT hmT hvT rfl hnT hdT
  refine peI (pe_callB call_isi hg hm (by decide +kernel) (pa_cons ha (pa_cons ht pa_nil h2) h1) (by decide) (by decide) h1 hpl) ?_
  rintro σ H Q ⟨F, α, ρ, S, at_, p⟩
  refine ⟨F, α, ρ, S, at_, post_mono (post_bind p) fun α1 S1 H1 d e1 p1 r1 q v rv => ?_⟩
  unfold isB at q
  split at q
  · rename_i t hty
    obtain ⟨ty, hm⟩ := ty_rv r1 rv hty
    exact ⟨v, .ty n, _, _, _, rfl, .ty n, ty, kit_ty (hk t hm), post_ok (E := E) q r1 _ (.bl _)⟩
  · exact False.elim q

/-! ### repr -/
abbrev rRepr (K : PySem.W.Frag) : List V → Hp → VK → Prop := fun xs H Q => ∃ a d, xs = [.ref a] ∧ Dp K H (.ref a) d ∧ d.showable = true ∧ d.canLay0 = true ∧ d.depth ≤ 62 ∧ d.shown.length ≤ sizeLine ∧ Q (.str d.shown) H
theorem cr_repr (hgd : X.A.guards = some []) (hu : X.A.units + 64 < cLine) : CallR X (.builtin "repr") (rRepr X.K) := by
  intro pins s σ H xs us Q I r h
  obtain ⟨a, d, rfl, hd, hs, hl, hz, hn, q⟩ := h
  obtain ⟨u, rfl, ru⟩ := vals1 r
  obtain rfl : u = Value.ref a := ru
  obtain ⟨as, rd⟩ := Dp.reads I d _ _ hd rfl
  exact repr_of_reads' rd hs (fun h' => absurd (h'.symm.trans (PyData.hasDict_of_canLay d hl)) (by decide)) hgd (by omega) (fun _ _ z => z) (fun h' u tk k => ⟨.str d.shown, H, I.kept k, ⟨_, rfl⟩, q⟩) hn
def D.isRef : D → Bool
  | .tup _ => true
  | .rl _ => true
  | .ref _ => true
  | _ => false
def bRepr : List D → Store → R D
  | [d], S => if d.isRef = true then match toP S 66 d with
      | some p => if (p.showable && (p.canLay0 && (decide (p.depth ≤ 62) && fits p.shown.length))) = true then .ok (.str p.shown) S else .bad
      | none => .bad else .bad
  | _, _ => .bad
theorem cm_repr : CallM X cls E (rRepr X.K) bRepr := by
  intro F α S H vs ds Q r rv p
  unfold bRepr at p
  split at p
  · rename_i d
    obtain ⟨hr, p⟩ := post_if (X := X) (cls := cls) p
    cases rv with
    | cons h hn =>
      cases hn
      split at p
      · rename_i pd hp
        obtain ⟨hc, p⟩ := post_if (X := X) (cls := cls) p
        simp only [Bool.and_eq_true, decide_eq_true_eq] at hc
        have hd := dp_of r 66 h hp
        have q := post_ok (E := E) p r _ (.str _)
        cases h with
        | tup h1 s1 => exact ⟨_, pd, rfl, hd, hc.1, hc.2.1, hc.2.2.1, fits_le hc.2.2.2, q⟩
        | rl h1 s1 => exact ⟨_, pd, rfl, hd, hc.1, hc.2.1, hc.2.2.1, fits_le hc.2.2.2, q⟩
        | ref h1 => exact ⟨_, pd, rfl, hd, hc.1, hc.2.1, hc.2.2.1, fits_le hc.2.2.2, q⟩
        | _ => cases hr
      · exact False.elim p
  · exact False.elim p

/-! ### {} -/
def mDNew : ME := fun _ S => .ok (.ref S.next) (S.push (.dct []))
theorem me_dnew : PE X (.Dict [] [] pos) (tM (G.mk X.K cls) E mDNew) := by
  refine peI pe_dnewK ?_
  rintro σ H Q ⟨F, α, ρ, S, at_, p⟩ q hq
  have r := at_.rep
  have pr : α <+: α ++ [q] := List.prefix_append _ _
  have ee := Ext.new hq (HO.dK [])
  refine p (α ++ [q]) _ ee pr ((r.beside hq _).push (r.notin hq) (fun z hz => ne_of_none (r.pin z hz).1 hq) ⟨[], upd_same, .nil⟩) _ (.ref ?_)
  rw [← r.len]
  simp
end

/-! ### the end of a law -/
/-- where each class stands -/
def clsOf (l : List (Str × Addr)) (c : Str) : Addr := (l.lookup c).getD 0
theorem tup_const {K : PySem.W.Frag} {a : Addr} {od : Option Addr} {its : Array Value} {n : Nat} {sl : Array (Option Value)} {vs : List V} {ds : List D} (l : K.lookup a = some ⟨.type "tuple", od, .seq its n, sl⟩) (z : its.size ≤ sizeLine) (v : Vals vs its.toList)
    (r : ∀ α H, RVs K α H vs ds) : ∀ α H, RV K α H (.ref a) (.tup ds) := fun α H => .tup (.inr ⟨_, _, _, l, rfl, rfl, z, v⟩) (r α H)

/-- the call of a law's def at the heap behind the top: only the script is held -/
theorem law_g {P : Program} {w : World} {K : PySem.W.Frag} {mg mb : Str → Option Value} {k : Nat} {fa a : Addr} {fd : FuncData} {x : Str} {sp : Sp} {sh : Shared} {vs : List Value} {ns : List Int}
    (KX : K.In sh.heap) (hgl : sh.heap.Ns mainGlobals mg) (hbl : sh.heap.Ns builtinsNs mb) (hbb : ∀ x : Str, x ≠ "__name__" → mb x = bootBuiltins x) (hnl : sh.heap.NoLimit) (hge : sh.gens = #[])
    (ha : sh.heap.get? a = some { cls := .type "list", data := .seq vs.toArray }) (hi : IntsAre vs ns) (hl : ns.length ≤ sizeLine) (hr : Room k PySem.callerA)
    (Fn : ∀ base : Heap, K.In base → base.Ns mainGlobals mg → FnG P w K mg base k fa fd [x] sp) (hbind : ∀ (s : Shared) (u : Value), BindsTo s fd ⟨[u], []⟩ [(x, u)])
    (hsp : ∀ H : Hp, (∀ b u, H b = some u → ∃ o ys, u = .frz o (.lst ys)) → RlAt K H a (ns.map V.int) → sp [.ref a] H (fun v _ => v = .bl true) fun _ _ _ => False)
    : codeAny (model P w) PySem.callerA (.call (.ref fa) ⟨[.ref a], []⟩) (fun r s' => r = .ok (.ret (.bool true)) ∧ OldK sh.heap s'.heap ∧ s'.os = sh.os ∧ AllBare s'.gens) sh := by
  have rv := L2.vals_ints hi
  have go : ∀ H : Hp, (∀ b u, H b = some u → ∃ o ys, u = .frz o (.lst ys)) → RlAt K H a (ns.map V.int) → HOk P w H sh.heap → (∀ b u, H b = some u → b = a) → (∀ u, H a = some u → K.lookup a = none) →
      codeAny (model P w) PySem.callerA (.call (.ref fa) ⟨[.ref a], []⟩) (fun r s' => r = .ok (.ret (.bool true)) ∧ OldK sh.heap s'.heap ∧ s'.os = sh.os ∧ AllBare s'.gens) sh := by
    intro H hO hR hok hA hK
    have old : ∀ {b : Addr} {o : Obj}, sh.heap.get? b = some o → H b = none → (hidT sh.heap H).get? b = some o := fun e n => hidT_get e n
    have free : ∀ {b : Addr} {o : Obj} {es : Array DictEntry} {ep : Nat}, sh.heap.get? b = some o → o.data = .dict es ep → H b = none := by
      intro b o es ep e dd
      cases z : H b with
      | none => rfl
      | some u =>
        have eb := hA b u z
        subst eb
        rw [ha] at e
        cases e
        cases dd
    have nsK : ∀ {b : Addr} {m : Str → Option Value}, sh.heap.Ns b m → (hidT sh.heap H).Ns b m := fun {b m} ⟨o, es, ep, e, dd, r⟩ => ⟨o, es, ep, old e (free e dd), dd, r⟩
    have kin : K.In (hidT sh.heap H) := by
      intro b o e
      refine old (KX b o e) ?_
      cases z : H b with
      | none => rfl
      | some u =>
        have eb := hA b u z
        subst eb
        rw [hK u z] at e
        cases e
    have md : Mod K mg (hidT sh.heap H) := ⟨kin, nsK hgl, ⟨mb, nsK hbl, hbb⟩, let ⟨mc, h1, h2⟩ := hnl; ⟨mc, nsK h1, h2⟩⟩
    have e0 : Env0 P w K mg (hidT sh.heap H) PySem.callerA [] sh H := by
      refine ⟨rfl, md, fun b o e => of_hidT e, Nat.le_of_eq (hidT_size _ _), trivial, fun b hb => ?_, hok, .of_eq hge⟩
      cases hb
    refine codeAny_mono ((Fn _ kin (nsK hgl)).run PySem.callerA [] sh H ⟨[.ref a], []⟩ [.ref a] [.ref a] _ _ hr rfl e0 (hbind sh (.ref a)) (.cons rfl .nil) (hsp H hO hR)) fun r s' h => ?_
    cases r with
    | error e =>
      obtain ⟨_, _, _, _, _, _, _, _, _, _, _, _, z⟩ := h
      exact z.elim
    | ok fl =>
      cases fl with
      | next => exact False.elim h
      | brk => exact False.elim h
      | cont => exact False.elim h
      | ret u =>
        obtain ⟨v, H', os, bare, un, hok', r', q⟩ := h
        have q' : v = .bl true := q
        subst q'
        obtain rfl : u = Value.bool true := r'
        refine ⟨rfl, OldK.of_keep fun b o e => ?_, os, bare⟩
        cases z : H b with
        | none => exact un.keep b o e z (fun y => nomatch y) (fun y => nomatch y)
        | some u =>
          obtain ⟨ob, ys, rfl⟩ := hO b u z
          obtain ⟨e1, _⟩ := hok b _ z
          obtain ⟨e2, _⟩ := hok' b _ (un.frzs b ob _ z)
          rw [e] at e1
          cases e1
          exact e2
  cases hk : K.lookup a with
  | some o =>
    have e := KX a o hk
    rw [ha] at e
    cases e
    refine go (fun _ => none) (fun _ _ z => nomatch z) (.inr ⟨_, vs.toArray, _, hk, rfl, rfl, rfl, ?_, by simpa using rv⟩) (fun _ _ z => nomatch z) (fun _ _ z => nomatch z) fun _ z => nomatch z
    rw [List.size_toArray, hi.length]
    exact hl
  | none =>
    let ob : Obj := { cls := .type "list", data := .seq vs.toArray }
    let H : Hp := fun b => if b = a then some (.frz ob (.lst (ns.map V.int))) else none
    have hH : ∀ b u, H b = some u → b = a ∧ u = .frz ob (.lst (ns.map V.int)) := by
      intro b u z
      by_cases hb : b = a
      · have z' : some (HO.frz ob (.lst (ns.map V.int))) = some u := (if_pos hb).symm.trans z
        cases z'
        exact ⟨hb, rfl⟩
      · have z' : (none : Option HO) = some u := (if_neg hb).symm.trans z
        cases z'
    refine go H (fun b u z => ⟨_, _, (hH b u z).2⟩) (.inl ⟨ob, if_pos rfl⟩) (fun b u z => ?_) (fun b u z => (hH b u z).1) fun _ _ => hk
    obtain ⟨rfl, rfl⟩ := hH b u z
    exact ⟨ha, by rw [List.length_map]; exact hl, vs, _, rv, ha⟩
/-- the law's promise: it is true of every list of so many ints -/
theorem walk_g {l : PySem.W.OpenLaw} {n k : Nat} {q : Program} {loose : List Str} {XP : (Str → Option Value) → Heap → Prop} {YP : World → Heap → Prop} {d : DefRec} {K : Params → PySem.W.Frag} {x : Str} {m : List D → Store → R D}
    (hn : l.most = some n) (hn2 : n ≤ sizeLine) (hdf : d.params.defaults = []) (hr : Room k PySem.callerA)
    (hY : ∀ (w : World) (h : Heap), YP w h → (K w.params).In h)
    (Fn : ∀ (w : World) (mg : Str → Option Value) (fa : Addr) (h : Heap), (K w.params).In h → h.Ns mainGlobals mg → mg d.name = some (.ref fa) →
      ∃ (cls : Str → Addr) (fd : FuncData), (∀ (s : Shared) (u : Value), BindsTo s fd ⟨[u], []⟩ [(x, u)]) ∧
        ∀ base : Heap, (K w.params).In base → base.Ns mainGlobals mg → FnG l.prog w (K w.params) mg base k fa fd [x] (spM (K w.params) cls m))
    (hm : ∀ ns : List Int, ns.length ≤ n → ∃ S, m [.rl (ns.map D.int)] Store.nil = .ok (.bl true) S) :
    PySem.W.WalkO q loose XP YP l.row.toRowW d [] (fun f vs => PySem.call f vs) := by
  refine Att.attach_call hn hdf fun w s₀ s₁ mg mb fa o pm cd doc a vs ns GG Y ho hd hcd hmg hobj hints hlen hg => ?_
  have KX := hY w _ Y
  obtain ⟨cls, fd, hb, hF⟩ := Fn w mg fa _ KX GG.T.g hmg
  refine law_g KX GG.T.g GG.T.b GG.T.builtins GG.T.nolimit hg hobj hints (Nat.le_trans hlen hn2) hr hF hb fun H hO hR => ?_
  obtain ⟨S, hS⟩ := hm ns hlen
  have rp : Rep ⟨K w.params, cls⟩ [] [] Store.nil H := ⟨rfl, fun _ h => (nomatch h), List.nodup_nil, fun _ h => (nomatch h), fun n o h => by rw [Store.get_nil] at h; cases h⟩
  refine ⟨[], [], Store.nil, [.rl (ns.map D.int)], rp, .cons (.rl hR (RVs.map_int ns)) .nil, ?_⟩
  rw [hS]
  intro α' H' e1 p1 r1 v rv
  cases rv
  rfl
end MM

/-! Printed by gen.py: each def as a Lean function. -/
namespace PP
open PySem L2 MM
abbrev WN : Nat := 1000000
def c_FAULT_WORDS : D := .tup [(.str "none"), (.str "two"), (.str "number"), (.str "nought"), (.str "great"), (.str "long"), (.str "ring")]
def c_LONE_WORDS : D := .tup [(.str "add"), (.str "less"), (.str "times"), (.str "over"), (.str "left"), (.str "below"), (.str "equal"), (.str "so far"), (.str "turn"), (.str "return")]
def c_OPERATIONS : D := .tup [(.str "add"), (.str "less"), (.str "times"), (.str "over"), (.str "left"), (.str "below"), (.str "equal")]
def c_PUTTING : D := .tup [(.str "push"), (.str "call"), (.str "so far"), (.str "turn")]
def c_SPOT_WORDS : D := .tup [(.str "unless"), (.str "go"), (.str "open"), (.str "close")]
def permId {β : Type} (l : List β) : List β := l
def permSw {β : Type} : List β → List β
  | [a, b] => [b, a]
  | l => l
def b_L_law_pot : MS := (mSeq (mAsg (mIf (mB (mOp opLt (mVar 1) (mCall bLen (mCons (mVar 0) mNil)))) (mCall bAbs (mCons (mOp getIx (mVar 0) (mVar 1)) mNil)) (mOp opAdd (mOp opMul (mC (.int (73))) (mVar 1)) (mC (.int (29))))) (mGN 2))
  (mRet (mNew (mFits (mCons (mCall bMax2 (mCons (mC (.int (0))) (mCons (mOp opSub (mVar 2) (mOp opPow (mC (.int (10))) (mC (.int (18))))) mNil))) (mCons (mOp opAdd (mOp opMod (mCall bInt (mCons (mOp opAdd (mOp opAdd (mOp opMul (mOp opMod (mCall bInt (mCons (mVar 2) mNil)) (mC (.int (2147483549)))) (mC (.int (48271)))) (mOp opMul (mC (.int (7001))) (mVar 1))) (mC (.int (97)))) mNil)) (mC (.int (2147483587)))) (mC (.int (1)))) mNil))))))
/-- _law_pot -/
def m_L_law_pot : List D → Store → R D := mDef 2 3 b_L_law_pot
def b_L_law_draw : MS := (mSeq (mIfS (mB (mOp opGt (mOp getIx (mVar 0) (mC (.int (0)))) (mC (.int (0))))) (mSeq (mAsg (mCall bDivmod (mCons (mOp getIx (mVar 0) (mC (.int (0)))) (mCons (mVar 1) mNil))) (mGT 2 (mGCons (mGSub (mVar 0) (mC (.int (0)))) (mGCons (mGN 2) mGNil))))
  (mRet (mVar 2))) mNext)
  (mSeq (mAsg (mOp opMod (mCall bInt (mCons (mOp opAdd (mOp opMul (mOp getIx (mVar 0) (mC (.int (1)))) (mC (.int (40692)))) (mC (.int (7001)))) mNil)) (mC (.int (2147483563)))) (mGSub (mVar 0) (mC (.int (1)))))
  (mRet (mOp opMod (mCall bInt (mCons (mOp opFdiv (mOp opMod (mCall bInt (mCons (mOp opMul (mOp getIx (mVar 0) (mC (.int (1)))) (mOp getIx (mVar 0) (mC (.int (1))))) mNil)) (mC (.int (2147483629)))) (mC (.int (19)))) mNil)) (mVar 1)))))
/-- _law_draw -/
def m_L_law_draw : List D → Store → R D := mDef 2 3 b_L_law_draw
def b_L_law_pick : MS := (mRet (mOp getIx (mVar 1) (mCall m_L_law_draw (mCons (mVar 0) (mCons (mCall bLen (mCons (mVar 1) mNil)) mNil)))))
/-- _law_pick -/
def m_L_law_pick : List D → Store → R D := mDef 2 2 b_L_law_pick
def b_L_law_leaf : MS := (mSeq (mAsg (mCall m_L_law_draw (mCons (mVar 0) (mCons (mC (.int (8))) mNil))) (mGN 3))
  (mSeq (mIfS (mAndT (mB (mOp opLt (mVar 3) (mC (.int (2))))) (mB (mOp opGt (mVar 2) (mC (.int (0)))))) (mRet (mTup (mCons (mC (.str "need")) (mCons (mCall m_L_law_draw (mCons (mVar 0) (mCons (mVar 2) mNil))) mNil)))) mNext)
  (mSeq (mIfS (mAndT (mB (mOp opLt (mVar 3) (mC (.int (5))))) (mB (mOp opGt (mVar 1) (mC (.int (0)))))) (mRet (mCall m_L_law_pick (mCons (mVar 0) (mCons (mNew (mFits (mCons (mTup (mCons (mC (.str "so far")) mNil)) (mCons (mTup (mCons (mC (.str "turn")) mNil)) (mCons (mTup (mCons (mC (.str "so far")) mNil)) mNil))))) mNil)))) mNext)
  (mRet (mCall m_L_law_pick (mCons (mVar 0) (mCons (mNew (mFits (mCons (mC (.int (0))) (mCons (mC (.int (1))) (mCons (mC (.int (2))) (mCons (mC (.int (3))) (mCons (mUn opNeg (mC (.int (1)))) (mCons (mUn opNeg (mC (.int (2)))) (mCons (mC (.int (5))) (mCons (mOp opPow (mC (.int (10))) (mC (.int (12)))) (mCons (mC (.int (0))) (mCons (mC (.int (7))) mNil)))))))))))) mNil)))))))
/-- _law_leaf -/
def m_L_law_leaf : List D → Store → R D := mDef 3 4 b_L_law_leaf
/-- _law_drawn -/
def M_L_law_drawn : Nat → List D → Store → R D
  | 0 => fun _ _ => .bad
  | n + 1 => mDef 4 10 (mSeq (mAsg (mCall m_L_law_draw (mCons (mVar 0) (mCons (mC (.int (10))) mNil))) (mGN 4))
  (mSeq (mIfS (mOrT (mB (mOp opEq (mVar 1) (mC (.int (0))))) (mB (mOp opLt (mVar 4) (mC (.int (2)))))) (mRet (mCall m_L_law_leaf (mCons (mVar 0) (mCons (mVar 2) (mCons (mVar 3) mNil))))) mNext)
  (mSeq (mIfS (mB (mOp opLt (mVar 4) (mC (.int (6))))) (mSeq (mAsg (mCall m_L_law_pick (mCons (mVar 0) (mCons (mNew (mFits (mCons (mC (.str "add")) (mCons (mC (.str "less")) (mCons (mC (.str "times")) (mCons (mC (.str "over")) (mCons (mC (.str "left")) (mCons (mC (.str "below")) (mCons (mC (.str "equal")) mNil))))))))) mNil))) (mGN 5))
  (mRet (mTup (mCons (mVar 5) (mCons (mCall (M_L_law_drawn n) (mCons (mVar 0) (mCons (mOp opSub (mVar 1) (mC (.int (1)))) (mCons (mVar 2) (mCons (mVar 3) mNil))))) (mCons (mCall (M_L_law_drawn n) (mCons (mVar 0) (mCons (mOp opSub (mVar 1) (mC (.int (1)))) (mCons (mVar 2) (mCons (mVar 3) mNil))))) mNil)))))) mNext)
  (mSeq (mIfS (mOrT (mB (mOp opLt (mVar 4) (mC (.int (8))))) (mB (mOp opGt (mVar 2) (mC (.int (1)))))) (mSeq (mAsg (mTup (mCons (mC (.str "if")) mNil)) (mGN 6))
  (mSeq (mFor (mRng1 (mC (.int (3)))) (mGN 7) (mAsg (mOp opAdd (mVar 6) (mTup (mCons (mCall (M_L_law_drawn n) (mCons (mVar 0) (mCons (mOp opSub (mVar 1) (mC (.int (1)))) (mCons (mVar 2) (mCons (mVar 3) mNil))))) mNil))) (mGN 6)))
  (mRet (mVar 6)))) mNext)
  (mSeq (mAsg (mCall m_L_law_pick (mCons (mVar 0) (mCons (mNew (mFits (mCons (mC (.int (2))) (mCons (mC (.int (3))) (mCons (mC (.int (1))) (mCons (mC (.int (0))) (mCons (mUn opNeg (mC (.int (1)))) (mCons (mC (.int (4))) (mCons (mC (.int (201))) (mCons (mTup (mCons (mC (.str "add")) (mCons (mC (.int (1))) (mCons (mC (.int (1))) mNil)))) (mCons (mCall m_L_law_leaf (mCons (mVar 0) (mCons (mVar 2) (mCons (mVar 3) mNil)))) mNil))))))))))) mNil))) (mGN 8))
  (mSeq (mAsg (mCall (M_L_law_drawn n) (mCons (mVar 0) (mCons (mOp opSub (mVar 1) (mC (.int (1)))) (mCons (mVar 2) (mCons (mVar 3) mNil))))) (mGN 9))
  (mRet (mTup (mCons (mC (.str "loop")) (mCons (mVar 8) (mCons (mVar 9) (mCons (mCall (M_L_law_drawn n) (mCons (mVar 0) (mCons (mOp opSub (mVar 1) (mC (.int (1)))) (mCons (mOp opAdd (mVar 2) (mC (.int (1)))) (mCons (mVar 3) mNil))))) mNil))))))))))))
/-- _law_laid -/
def M_L_law_laid : Nat → List D → Store → R D
  | 0 => fun _ _ => .bad
  | n + 1 => mDef 2 11 (mSeq (mIfS (mB (mIsB "int" (mVar 0))) (mRet (mNew (mFits (mCons (mTup (mCons (mC (.str "push")) (mCons (mVar 0) mNil))) mNil)))) mNext)
  (mSeq (mAsg (mOp getIx (mVar 0) (mC (.int (0)))) (mGN 2))
  (mSeq (mIfS (mB (mOp opEq (mVar 2) (mC (.str "need")))) (mRet (mNew (mFits (mCons (mTup (mCons (mC (.str "call")) (mCons (mOp getIx (mVar 0) (mC (.int (1)))) mNil))) mNil)))) mNext)
  (mSeq (mIfS (mB (mOp (dIn false) (mVar 2) (mTup (mCons (mC (.str "so far")) (mCons (mC (.str "turn")) mNil))))) (mRet (mNew (mFits (mCons (mVar 0) mNil)))) mNext)
  (mSeq (mAsg (mCall (M_L_law_laid n) (mCons (mOp getIx (mVar 0) (mC (.int (1)))) (mCons (mVar 1) mNil))) (mGN 3))
  (mSeq (mIfS (mB (mOp opEq (mVar 2) (mC (.str "if")))) (mSeq (mAsg (mCall (M_L_law_laid n) (mCons (mOp getIx (mVar 0) (mC (.int (2)))) (mCons (mOp opAdd (mOp opAdd (mVar 1) (mCall bLen (mCons (mVar 3) mNil))) (mC (.int (1)))) mNil))) (mGN 4))
  (mSeq (mAsg (mOp opAdd (mOp opAdd (mOp opAdd (mVar 1) (mCall bLen (mCons (mVar 3) mNil))) (mCall bLen (mCons (mVar 4) mNil))) (mC (.int (2)))) (mGN 5))
  (mSeq (mAsg (mCall (M_L_law_laid n) (mCons (mOp getIx (mVar 0) (mC (.int (3)))) (mCons (mVar 5) mNil))) (mGN 6))
  (mRet (mOp opAdd (mOp opAdd (mOp opAdd (mOp opAdd (mVar 3) (mNew (mFits (mCons (mTup (mCons (mC (.str "unless")) (mCons (mVar 5) mNil))) mNil)))) (mVar 4)) (mNew (mFits (mCons (mTup (mCons (mC (.str "go")) (mCons (mOp opAdd (mVar 5) (mCall bLen (mCons (mVar 6) mNil))) mNil))) mNil)))) (mVar 6)))))) mNext)
  (mSeq (mAsg (mCall (M_L_law_laid n) (mCons (mOp getIx (mVar 0) (mC (.int (2)))) (mCons (mOp opAdd (mVar 1) (mCall bLen (mCons (mVar 3) mNil))) mNil))) (mGN 7))
  (mSeq (mIfS (mB (mOp opEq (mVar 2) (mC (.str "loop")))) (mSeq (mAsg (mOp opAdd (mOp opAdd (mOp opAdd (mVar 1) (mCall bLen (mCons (mVar 3) mNil))) (mCall bLen (mCons (mVar 7) mNil))) (mC (.int (1)))) (mGN 8))
  (mSeq (mAsg (mCall (M_L_law_laid n) (mCons (mOp getIx (mVar 0) (mC (.int (3)))) (mCons (mVar 8) mNil))) (mGN 9))
  (mSeq (mAsg (mTup (mCons (mC (.str "open")) (mCons (mOp opAdd (mOp opAdd (mVar 8) (mCall bLen (mCons (mVar 9) mNil))) (mC (.int (1)))) mNil))) (mGN 10))
  (mRet (mOp opAdd (mOp opAdd (mOp opAdd (mOp opAdd (mVar 3) (mVar 7)) (mNew (mFits (mCons (mVar 10) mNil)))) (mVar 9)) (mNew (mFits (mCons (mTup (mCons (mC (.str "close")) (mCons (mVar 8) mNil))) mNil)))))))) mNext)
  (mRet (mOp opAdd (mOp opAdd (mVar 3) (mVar 7)) (mNew (mFits (mCons (mTup (mCons (mVar 2) mNil)) mNil)))))))))))))
def b_L_law_routine : MS := (mRet (mCall bTup (mCons (mOp opAdd (mCall (M_L_law_laid 12) (mCons (mCall (M_L_law_drawn 12) (mCons (mVar 0) (mCons (mVar 1) (mCons (mC (.int (0))) (mCons (mVar 2) mNil))))) (mCons (mC (.int (0))) mNil))) (mNew (mFits (mCons (mTup (mCons (mC (.str "return")) mNil)) mNil)))) mNil)))
/-- _law_routine -/
def m_L_law_routine : List D → Store → R D := mDef 3 3 b_L_law_routine
def b_L_law_code : MS := (mSeq (mPar 1 2 (mOp opAdd (mC (.int (1))) (mCall m_L_law_draw (mCons (mVar 0) (mCons (mC (.int (4))) mNil)))) (mNew (mFits mNil)))
  (mSeq (mAsg (mOp opEq (mCall m_L_law_draw (mCons (mVar 0) (mCons (mC (.int (3))) mNil))) (mC (.int (0)))) (mGN 3))
  (mSeq (mFor (mRng1 (mVar 1)) (mGN 4) (mDrop (mBM isLst bAppend (mVar 2) (mCons (mCall m_L_law_routine (mCons (mVar 0) (mCons (mIf (mB (mOp opEq (mVar 4) (mC (.int (0))))) (mC (.int (3))) (mC (.int (2)))) (mCons (mIf (mB (mVar 3)) (mVar 1) (mVar 4)) mNil)))) mNil))))
  (mSeq (mAsg (mIf (mB (mVar 3)) (mCall m_L_law_draw (mCons (mVar 0) (mCons (mVar 1) mNil))) (mOp opSub (mVar 1) (mC (.int (1))))) (mGN 5))
  (mRet (mTup (mCons (mC (.str "code")) (mCons (mVar 5) (mCons (mCall bTup (mCons (mVar 2) mNil)) mNil)))))))))
/-- _law_code -/
def m_L_law_code : List D → Store → R D := mDef 1 6 b_L_law_code
def b_L_law_great : MS := (mSeq (mAsg (mCall m_L_law_pick (mCons (mVar 0) (mCons (mNew (mFits (mCons (mTup (mCons (mC (.str "add")) (mCons (mTup (mCons (mC (.str "so far")) mNil)) (mCons (mTup (mCons (mC (.str "turn")) mNil)) mNil)))) (mCons (mTup (mCons (mC (.str "left")) (mCons (mTup (mCons (mC (.str "times")) (mCons (mTup (mCons (mC (.str "so far")) mNil)) (mCons (mC (.int (7))) mNil)))) (mCons (mC (.int (999983))) mNil)))) (mCons (mTup (mCons (mC (.str "less")) (mCons (mTup (mCons (mC (.str "turn")) mNil)) (mCons (mTup (mCons (mC (.str "so far")) mNil)) mNil)))) mNil))))) mNil))) (mGN 1))
  (mSeq (mAsg (mTup (mCons (mC (.str "loop")) (mCons (mCall m_L_law_pick (mCons (mVar 0) (mCons (mNew (mFits (mCons (mC (.int (1))) (mCons (mC (.int (30))) (mCons (mC (.int (60))) (mCons (mC (.int (200))) (mCons (mC (.int (201))) mNil))))))) mNil))) (mCons (mTup (mCons (mC (.str "so far")) mNil)) (mCons (mVar 1) mNil))))) (mGN 2))
  (mSeq (mAsg (mNew (mFits (mCons (mCall bTup (mCons (mOp opAdd (mCall (M_L_law_laid 12) (mCons (mTup (mCons (mC (.str "loop")) (mCons (mCall m_L_law_pick (mCons (mVar 0) (mCons (mNew (mFits (mCons (mC (.int (200))) (mCons (mC (.int (150))) (mCons (mC (.int (199))) (mCons (mC (.int (40))) mNil)))))) mNil))) (mCons (mC (.int (1))) (mCons (mVar 2) mNil))))) (mCons (mC (.int (0))) mNil))) (mNew (mFits (mCons (mTup (mCons (mC (.str "return")) mNil)) mNil)))) mNil)) mNil))) (mGN 3))
  (mSeq (mFor (mRng1 (mCall m_L_law_pick (mCons (mVar 0) (mCons (mNew (mFits (mCons (mC (.int (0))) (mCons (mC (.int (3))) (mCons (mC (.int (399))) (mCons (mC (.int (200))) mNil)))))) mNil)))) (mGN 4) (mSeq (mAsg (mCall m_L_law_pick (mCons (mVar 0) (mCons (mNew (mFits (mCons (mTup (mCons (mC (.str "add")) mNil)) (mCons (mTup (mCons (mC (.str "less")) mNil)) (mCons (mTup (mCons (mC (.str "add")) mNil)) mNil))))) mNil))) (mGN 5))
  (mDrop (mBM isLst bAppend (mVar 3) (mCons (mTup (mCons (mTup (mCons (mC (.str "call")) (mCons (mVar 4) mNil))) (mCons (mTup (mCons (mC (.str "push")) (mCons (mOp opAdd (mC (.int (1))) (mOp opMod (mCall bInt (mCons (mVar 4) mNil)) (mC (.int (3))))) mNil))) (mCons (mVar 5) (mCons (mTup (mCons (mC (.str "return")) mNil)) mNil))))) mNil)))))
  (mRet (mTup (mCons (mC (.str "code")) (mCons (mOp opSub (mCall bLen (mCons (mVar 3) mNil)) (mC (.int (1)))) (mCons (mCall bTup (mCons (mVar 3) mNil)) mNil)))))))))
/-- _law_great -/
def m_L_law_great : List D → Store → R D := mDef 1 6 b_L_law_great
def b_L_law_called : MS := (mSeq (mIfS (mB (mOp (dIn false) (mVar 2) (mVar 1))) (mSeq (mDrop (mBM isLst bAppend (mOp getIx (mOp getIx (mVar 0) (mUn opNeg (mC (.int (1))))) (mC (.int (2)))) (mCons (mOp getIx (mVar 1) (mVar 2)) mNil)))
  (mRet (mC .non))) mNext)
  (mSeq (mAsg (mNew (mLc (mIS (mVar 0)) [4] (mGN 4) mYes (mOp getIx (mVar 4) (mC (.int (0)))))) (mGN 3))
  (mSeq (mIfS (mB (mOp (dIn false) (mVar 2) (mVar 3))) (mRet (mCall bMinL (mCons (mSl (mVar 3) (mSome (mBM isLst bIndex (mVar 3) (mCons (mVar 2) mNil))) mNo) mNil))) mNext)
  (mSeq (mDrop (mBM isLst bAppend (mVar 0) (mCons (mNew (mFits (mCons (mVar 2) (mCons (mC (.int (0))) (mCons (mNew (mFits mNil)) (mCons (mNew (mFits mNil)) mNil)))))) mNil)))
  (mRet (mC .non))))))
/-- _law_called -/
def m_L_law_called : List D → Store → R D := mDef 3 5 b_L_law_called
def b_L_law_closed : MS := (mSeq (mAsg (mOp getIx (mOp getIx (mVar 0) (mC (.int (3)))) (mUn opNeg (mC (.int (1))))) (mGN 2))
  (mSeq (mAsg (mTup (mCons (mBM isLst bPop (mOp getIx (mVar 0) (mC (.int (2)))) mNil) (mCons (mOp opAdd (mOp getIx (mVar 2) (mC (.int (2)))) (mC (.int (1)))) mNil))) (mGT 2 (mGCons (mGSub (mVar 2) (mC (.int (1)))) (mGCons (mGSub (mVar 2) (mC (.int (2)))) mGNil))))
  (mIfS (mB (mOp opLt (mOp getIx (mVar 2) (mC (.int (2)))) (mOp getIx (mVar 2) (mC (.int (0)))))) (mAsg (mVar 1) (mGSub (mVar 0) (mC (.int (1))))) (mDrop (mBM isLst bAppend (mOp getIx (mVar 0) (mC (.int (2)))) (mCons (mOp getIx (mBM isLst bPop (mOp getIx (mVar 0) (mC (.int (3)))) mNil) (mC (.int (1)))) mNil))))))
/-- _law_closed -/
def m_L_law_closed : List D → Store → R D := mDef 2 3 b_L_law_closed
def b_L_law_opened : MS := (mSeq (mPar 2 3 (mBM isLst bPop (mOp getIx (mVar 0) (mC (.int (2)))) mNil) (mBM isLst bPop (mOp getIx (mVar 0) (mC (.int (2)))) mNil))
  (mSeq (mIfS (mB (mOp opGt (mVar 3) (mC (.int (200))))) (mRet (mC (.str "long"))) mNext)
  (mSeq (mIfS (mB (mOp opLt (mVar 3) (mC (.int (1))))) (mSeq (mDrop (mBM isLst bAppend (mOp getIx (mVar 0) (mC (.int (2)))) (mCons (mVar 2) mNil)))
  (mAsg (mVar 1) (mGSub (mVar 0) (mC (.int (1)))))) (mDrop (mBM isLst bAppend (mOp getIx (mVar 0) (mC (.int (3)))) (mCons (mNew (mFits (mCons (mVar 3) (mCons (mVar 2) (mCons (mC (.int (0))) mNil))))) mNil))))
  (mRet (mC .non)))))
/-- _law_opened -/
def m_L_law_opened : List D → Store → R D := mDef 2 4 b_L_law_opened
def b_L_law_operated : MS := (mSeq (mIfS (mAndT (mB (mOp (dIn false) (mVar 0) (mTup (mCons (mC (.str "over")) (mCons (mC (.str "left")) mNil))))) (mB (mOp opEq (mVar 2) (mC (.int (0)))))) (mRet (mC (.str "nought"))) mNext)
  (mSeq (mIfS (mB (mOp (dIn false) (mVar 0) (mTup (mCons (mC (.str "below")) (mCons (mC (.str "equal")) mNil))))) (mRet (mIf (mB (mOp opEq (mVar 0) (mC (.str "below")))) (mCall bInt (mCons (mOp opLt (mVar 1) (mVar 2)) mNil)) (mCall bInt (mCons (mOp opEq (mVar 1) (mVar 2)) mNil)))) mNext)
  (mSeq (mIfS (mB (mOp (dIn false) (mVar 0) (mTup (mCons (mC (.str "over")) (mCons (mC (.str "left")) mNil))))) (mAsg (mIf (mB (mOp opEq (mVar 0) (mC (.str "over")))) (mOp opFdiv (mVar 1) (mVar 2)) (mOp opSub (mVar 1) (mOp opMul (mVar 2) (mOp opFdiv (mVar 1) (mVar 2))))) (mGN 3)) (mAsg (mIf (mB (mOp opEq (mVar 0) (mC (.str "add")))) (mOp opAdd (mVar 1) (mVar 2)) (mIf (mB (mOp opEq (mVar 0) (mC (.str "less")))) (mOp opSub (mVar 1) (mVar 2)) (mOp opMul (mVar 1) (mVar 2)))) (mGN 3)))
  (mRet (mIf (mB (mOp opGt (mCall bAbs (mCons (mVar 3) mNil)) (mOp opPow (mC (.int (10))) (mC (.int (12)))))) (mC (.str "great")) (mVar 3))))))
/-- _law_operated -/
def m_L_law_operated : List D → Store → R D := mDef 3 4 b_L_law_operated
def b_L_law_done : MS := (mSeq (mPar 2 3 (mOp getIx (mVar 1) (mC (.int (0)))) (mOp getIx (mVar 0) (mC (.int (2)))))
  (mSeq (mIfS (mB (mOp (dIn false) (mVar 2) (mTup (mCons (mC (.str "push")) (mCons (mC (.str "so far")) (mCons (mC (.str "turn")) mNil)))))) (mDrop (mBM isLst bAppend (mVar 3) (mCons (mIf (mB (mOp opEq (mVar 2) (mC (.str "push")))) (mOp getIx (mVar 1) (mC (.int (1)))) (mOp getIx (mOp getIx (mOp getIx (mVar 0) (mC (.int (3)))) (mUn opNeg (mC (.int (1))))) (mIf (mB (mOp opEq (mVar 2) (mC (.str "so far")))) (mC (.int (1))) (mC (.int (2)))))) mNil))) (mIfS (mB (mOp opEq (mVar 2) (mC (.str "unless")))) (mAsg (mIf (mB (mOp opEq (mBM isLst bPop (mVar 3) mNil) (mC (.int (0))))) (mOp getIx (mVar 1) (mC (.int (1)))) (mOp getIx (mVar 0) (mC (.int (1))))) (mGSub (mVar 0) (mC (.int (1))))) (mIfS (mB (mOp opEq (mVar 2) (mC (.str "go")))) (mAsg (mOp getIx (mVar 1) (mC (.int (1)))) (mGSub (mVar 0) (mC (.int (1))))) (mIfS (mB (mOp opEq (mVar 2) (mC (.str "open")))) (mRet (mCall m_L_law_opened (mCons (mVar 0) (mCons (mOp getIx (mVar 1) (mC (.int (1)))) mNil)))) (mIfS (mB (mOp opEq (mVar 2) (mC (.str "close")))) (mDrop (mCall m_L_law_closed (mCons (mVar 0) (mCons (mOp getIx (mVar 1) (mC (.int (1)))) mNil)))) (mIfS (mB (mOp opEq (mVar 2) (mC (.str "fault")))) (mRet (mOp getIx (mVar 1) (mC (.int (1))))) (mSeq (mAsg (mBM isLst bPop (mVar 3) mNil) (mGN 4))
  (mSeq (mAsg (mCall m_L_law_operated (mCons (mVar 2) (mCons (mBM isLst bPop (mVar 3) mNil) (mCons (mVar 4) mNil)))) (mGN 5))
  (mSeq (mIfS (mB (mIsB "str" (mVar 5))) (mRet (mVar 5)) mNext)
  (mDrop (mBM isLst bAppend (mVar 3) (mCons (mVar 5) mNil))))))))))))
  (mRet (mC .non))))
/-- _law_done -/
def m_L_law_done : List D → Store → R D := mDef 2 6 b_L_law_done
def b_L_law_run : MS := (mSeq (mPar 2 3 (mNew (mFits (mCons (mNew (mFits (mCons (mOp getIx (mVar 0) (mC (.int (1)))) (mCons (mC (.int (0))) (mCons (mNew (mFits mNil)) (mCons (mNew (mFits mNil)) mNil)))))) mNil))) mDNew)
  (mSeq (mFor (mRng2 (mC (.int (1))) (mOp opAdd (mVar 1) (mC (.int (1))))) (mGN 4) (mSeq (mAsg (mOp getIx (mVar 2) (mUn opNeg (mC (.int (1))))) (mGN 5))
  (mSeq (mAsg (mOp getIx (mOp getIx (mOp getIx (mVar 0) (mC (.int (2)))) (mOp getIx (mVar 5) (mC (.int (0))))) (mOp getIx (mVar 5) (mC (.int (1))))) (mGN 6))
  (mSeq (mAsg (mOp opAdd (mOp getIx (mVar 5) (mC (.int (1)))) (mC (.int (1)))) (mGSub (mVar 5) (mC (.int (1)))))
  (mIfS (mB (mOp opEq (mOp getIx (mVar 6) (mC (.int (0)))) (mC (.str "return")))) (mSeq (mAsg (mBM isLst bPop (mOp getIx (mVar 5) (mC (.int (2)))) mNil) (mGSub (mVar 3) (mOp getIx (mVar 5) (mC (.int (0))))))
  (mSeq (mDrop (mBM isLst bPop (mVar 2) mNil))
  (mSeq (mIfS (mB (mOp opEq (mVar 2) (mNew (mFits mNil)))) (mRet (mTup (mCons (mC (.str "value")) (mCons (mOp getIx (mVar 3) (mOp getIx (mVar 5) (mC (.int (0))))) (mCons (mVar 4) mNil))))) mNext)
  (mDrop (mBM isLst bAppend (mOp getIx (mOp getIx (mVar 2) (mUn opNeg (mC (.int (1))))) (mC (.int (2)))) (mCons (mOp getIx (mVar 3) (mOp getIx (mVar 5) (mC (.int (0))))) mNil)))))) (mIfS (mB (mOp opEq (mOp getIx (mVar 6) (mC (.int (0)))) (mC (.str "call")))) (mSeq (mAsg (mCall m_L_law_called (mCons (mVar 2) (mCons (mVar 3) (mCons (mOp getIx (mVar 6) (mC (.int (1)))) mNil)))) (mGN 7))
  (mIfS (mB (mOp opIsNot (mVar 7) (mC .non))) (mRet (mTup (mCons (mC (.str "fault")) (mCons (mC (.str "ring")) (mCons (mVar 7) (mCons (mVar 4) mNil)))))) mNext)) (mSeq (mAsg (mCall m_L_law_done (mCons (mVar 5) (mCons (mVar 6) mNil))) (mGN 8))
  (mIfS (mB (mOp opIsNot (mVar 8) (mC .non))) (mRet (mTup (mCons (mC (.str "fault")) (mCons (mVar 8) (mCons (mOp getIx (mVar 5) (mC (.int (0)))) (mCons (mVar 4) mNil)))))) mNext))))))))
  (mRet (mTup (mCons (mC (.str "on")) (mCons (mVar 1) mNil))))))
/-- _law_run -/
def m_L_law_run : List D → Store → R D := mDef 2 9 b_L_law_run
def b_is_integer : MS := (mRet (mAnd (mIsB "int" (mVar 0)) (mNot (mIsB "bool" (mVar 0)))))
/-- is_integer -/
def m_is_integer : List D → Store → R D := mDef 1 1 b_is_integer
def b_is_count : MS := (mRet (mAnd (mCall m_is_integer (mCons (mVar 0) mNil)) (mOp opGe (mVar 0) (mC (.int (0))))))
/-- is_count -/
def m_is_count : List D → Store → R D := mDef 1 1 b_is_count
def b_is_instruction : MS := (mSeq (mIfS (mOrT (mNotT (mB (mIsB "tuple" (mVar 0)))) (mOrT (mB (mOp opEq (mCall bLen (mCons (mVar 0) mNil)) (mC (.int (0))))) (mNotT (mB (mIsB "str" (mOp getIx (mVar 0) (mC (.int (0))))))))) (mRet (mC (.bl false))) mNext)
  (mSeq (mAsg (mOp getIx (mVar 0) (mC (.int (0)))) (mGN 3))
  (mSeq (mIfS (mB (mOp (dIn false) (mVar 3) (mC c_LONE_WORDS))) (mRet (mOp opEq (mCall bLen (mCons (mVar 0) mNil)) (mC (.int (1))))) mNext)
  (mSeq (mIfS (mB (mOp opNe (mCall bLen (mCons (mVar 0) mNil)) (mC (.int (2))))) (mRet (mC (.bl false))) mNext)
  (mSeq (mAsg (mOp getIx (mVar 0) (mC (.int (1)))) (mGN 4))
  (mSeq (mIfS (mB (mOp opEq (mVar 3) (mC (.str "push")))) (mRet (mAnd (mCall m_is_integer (mCons (mVar 4) mNil)) (mOp opLe (mCall bAbs (mCons (mVar 4) mNil)) (mC (.int (1000000000000)))))) mNext)
  (mSeq (mIfS (mB (mOp opEq (mVar 3) (mC (.str "call")))) (mRet (mAnd (mCall m_is_count (mCons (mVar 4) mNil)) (mOp opLt (mVar 4) (mVar 2)))) mNext)
  (mSeq (mIfS (mB (mOp opEq (mVar 3) (mC (.str "fault")))) (mRet (mAnd (mIsB "str" (mVar 4)) (mOp (dIn false) (mVar 4) (mC c_FAULT_WORDS)))) mNext)
  (mRet (mAnd (mOp (dIn false) (mVar 3) (mC c_SPOT_WORDS)) (mAnd (mCall m_is_count (mCons (mVar 4) mNil)) (mOp opLt (mVar 4) (mVar 1)))))))))))))
/-- is_instruction -/
def m_is_instruction : List D → Store → R D := mDef 3 5 b_is_instruction
def b_is_routine_form : MS := (mSeq (mIfS (mOrT (mNotT (mB (mIsB "tuple" (mVar 0)))) (mNotT (mB (mChain opLe opLe (mC (.int (1))) (mCall bLen (mCons (mVar 0) mNil)) (mC (.int (1000))))))) (mRet (mC (.bl false))) mNext)
  (mRet (mCall bAll (mLc (mIS (mVar 0)) [2] (mGN 2) mYes (mCall m_is_instruction (mCons (mVar 2) (mCons (mCall bLen (mCons (mVar 0) mNil)) (mCons (mVar 1) mNil))))))))
/-- is_routine_form -/
def m_is_routine_form : List D → Store → R D := mDef 2 3 b_is_routine_form
def b_stands_behind : MS := (mSeq (mAsg (mOp getIx (mVar 0) (mC (.int (0)))) (mGN 4))
  (mSeq (mIfS (mB (mOp (dIn false) (mVar 4) (mC c_PUTTING))) (mRet (mIf (mAndT (mB (mOp (dIn false) (mVar 4) (mTup (mCons (mC (.str "so far")) (mCons (mC (.str "turn")) mNil))))) (mB (mOp opEq (mVar 3) (mC (.int (0)))))) (mC .non) (mNew (mFits (mCons (mTup (mCons (mOp opAdd (mVar 1) (mC (.int (1)))) (mCons (mTup (mCons (mOp opAdd (mVar 2) (mC (.int (1)))) (mCons (mVar 3) mNil))) mNil))) mNil))))) mNext)
  (mSeq (mIfS (mB (mOp (dIn false) (mVar 4) (mC c_OPERATIONS))) (mRet (mIf (mB (mOp opGt (mVar 2) (mC (.int (1))))) (mNew (mFits (mCons (mTup (mCons (mOp opAdd (mVar 1) (mC (.int (1)))) (mCons (mTup (mCons (mOp opSub (mVar 2) (mC (.int (1)))) (mCons (mVar 3) mNil))) mNil))) mNil))) (mC .non))) mNext)
  (mSeq (mIfS (mB (mOp opEq (mVar 4) (mC (.str "go")))) (mRet (mNew (mFits (mCons (mTup (mCons (mOp getIx (mVar 0) (mC (.int (1)))) (mCons (mTup (mCons (mVar 2) (mCons (mVar 3) mNil))) mNil))) mNil)))) mNext)
  (mSeq (mIfS (mB (mOp opEq (mVar 4) (mC (.str "unless")))) (mSeq (mAsg (mTup (mCons (mOp opSub (mVar 2) (mC (.int (1)))) (mCons (mVar 3) mNil))) (mGN 5))
  (mRet (mIf (mB (mOp opGt (mVar 2) (mC (.int (0))))) (mNew (mFits (mCons (mTup (mCons (mOp opAdd (mVar 1) (mC (.int (1)))) (mCons (mVar 5) mNil))) (mCons (mTup (mCons (mOp getIx (mVar 0) (mC (.int (1)))) (mCons (mVar 5) mNil))) mNil)))) (mC .non)))) mNext)
  (mSeq (mIfS (mB (mOp opEq (mVar 4) (mC (.str "open")))) (mRet (mIf (mB (mOp opGt (mVar 2) (mC (.int (1))))) (mNew (mFits (mCons (mTup (mCons (mOp opAdd (mVar 1) (mC (.int (1)))) (mCons (mTup (mCons (mOp opSub (mVar 2) (mC (.int (2)))) (mCons (mOp opAdd (mVar 3) (mC (.int (1)))) mNil))) mNil))) (mCons (mTup (mCons (mOp getIx (mVar 0) (mC (.int (1)))) (mCons (mTup (mCons (mOp opSub (mVar 2) (mC (.int (1)))) (mCons (mVar 3) mNil))) mNil))) mNil)))) (mC .non))) mNext)
  (mSeq (mIfS (mB (mOp opEq (mVar 4) (mC (.str "close")))) (mSeq (mIfS (mOrT (mB (mOp opEq (mVar 2) (mC (.int (0))))) (mB (mOp opEq (mVar 3) (mC (.int (0)))))) (mRet (mC .non)) mNext)
  (mRet (mNew (mFits (mCons (mTup (mCons (mOp opAdd (mVar 1) (mC (.int (1)))) (mCons (mTup (mCons (mVar 2) (mCons (mOp opSub (mVar 3) (mC (.int (1)))) mNil))) mNil))) (mCons (mTup (mCons (mOp getIx (mVar 0) (mC (.int (1)))) (mCons (mTup (mCons (mOp opSub (mVar 2) (mC (.int (1)))) (mCons (mVar 3) mNil))) mNil))) mNil)))))) mNext)
  (mRet (mIf (mAndT (mB (mOp opEq (mVar 4) (mC (.str "return")))) (mB (mOp opNe (mTup (mCons (mVar 2) (mCons (mVar 3) mNil))) (mTup (mCons (mC (.int (1))) (mCons (mC (.int (0))) mNil)))))) (mC .non) (mNew (mFits mNil)))))))))))
/-- stands_behind -/
def m_stands_behind : List D → Store → R D := mDef 4 6 b_stands_behind
def b_stands_of : MS := (mSeq (mPar 1 2 (mOp opMul (mNew (mFits (mCons (mC .non) mNil))) (mCall bLen (mCons (mVar 0) mNil))) (mNew (mFits (mCons (mTup (mCons (mC (.int (0))) (mCons (mTup (mCons (mC (.int (0))) (mCons (mC (.int (0))) mNil))) mNil))) mNil))))
  (mSeq (mWhile (mB (mOp opNe (mVar 2) (mNew (mFits mNil)))) (mSeq (mAsg (mBM isLst bPop (mVar 2) mNil) (mGT 2 (mGCons (mGN 3) (mGCons (mGN 4) mGNil))))
  (mSeq (mIfS (mOrT (mB (mOp opEq (mVar 3) (mCall bLen (mCons (mVar 0) mNil)))) (mAndT (mB (mOp opIsNot (mOp getIx (mVar 1) (mVar 3)) (mC .non))) (mB (mOp opNe (mOp getIx (mVar 1) (mVar 3)) (mVar 4))))) (mRet (mC .non)) mNext)
  (mIfS (mB (mOp opIs (mOp getIx (mVar 1) (mVar 3)) (mC .non))) (mSeq (mAsg (mVar 4) (mGSub (mVar 1) (mVar 3)))
  (mSeq (mAsg (mCall m_stands_behind (mCons (mOp getIx (mVar 0) (mVar 3)) (mCons (mVar 3) (mCons (mOp getIx (mVar 4) (mC (.int (0)))) (mCons (mOp getIx (mVar 4) (mC (.int (1)))) mNil))))) (mGN 5))
  (mSeq (mIfS (mB (mOp opIs (mVar 5) (mC .non))) (mRet (mC .non)) mNext)
  (mDrop (mBM isLst bExtend (mVar 2) (mCons (mVar 5) mNil)))))) mNext))) WN)
  (mRet (mVar 1))))
/-- stands_of -/
def m_stands_of : List D → Store → R D := mDef 1 6 b_stands_of
def b_is_code_value : MS := (mSeq (mIfS (mOrT (mNotT (mB (mIsB "tuple" (mVar 0)))) (mOrT (mB (mOp opNe (mCall bLen (mCons (mVar 0) mNil)) (mC (.int (3))))) (mOrT (mNotT (mB (mIsB "str" (mOp getIx (mVar 0) (mC (.int (0))))))) (mB (mOp opNe (mOp getIx (mVar 0) (mC (.int (0)))) (mC (.str "code"))))))) (mRet (mC (.bl false))) mNext)
  (mSeq (mAsg (mTup (mCons (mOp getIx (mVar 0) (mC (.int (1)))) (mCons (mOp getIx (mVar 0) (mC (.int (2)))) mNil))) (mGT 2 (mGCons (mGN 1) (mGCons (mGN 2) mGNil))))
  (mSeq (mIfS (mOrT (mNotT (mB (mIsB "tuple" (mVar 2)))) (mNotT (mB (mChain opLe opLe (mC (.int (1))) (mCall bLen (mCons (mVar 2) mNil)) (mC (.int (400))))))) (mRet (mC (.bl false))) mNext)
  (mSeq (mIfS (mOrT (mNotT (mB (mCall m_is_count (mCons (mVar 1) mNil)))) (mB (mOp opGe (mVar 1) (mCall bLen (mCons (mVar 2) mNil))))) (mRet (mC (.bl false))) mNext)
  (mSeq (mIfS (mNotT (mB (mCall bAll (mLc (mIS (mVar 2)) [3] (mGN 3) mYes (mCall m_is_routine_form (mCons (mVar 3) (mCons (mCall bLen (mCons (mVar 2) mNil)) mNil))))))) (mRet (mC (.bl false))) mNext)
  (mRet (mCall bAll (mLc (mIS (mVar 2)) [3] (mGN 3) mYes (mOp opIsNot (mCall m_stands_of (mCons (mVar 3) mNil)) (mC .non))))))))))
/-- is_code_value -/
def m_is_code_value : List D → Store → R D := mDef 1 4 b_is_code_value
def b_is_code : MS := (mRet (mCall m_is_code_value (mCons (mVar 0) mNil)))
/-- is_code -/
def m_is_code : List D → Store → R D := mDef 1 1 b_is_code
def b_Frame____init__ : MS := (mSeq (mAsg (mVar 1) (mGFld ["Frame"] "position" (mVar 0)))
  (mSeq (mAsg (mC (.int (0))) (mGFld ["Frame"] "place" (mVar 0)))
  (mSeq (mAsg (mNew (mFits mNil)) (mGFld ["Frame"] "stack" (mVar 0)))
  (mAsg (mNew (mFits mNil)) (mGFld ["Frame"] "loops" (mVar 0))))))
/-- Frame.__init__ -/
def m_Frame____init__ : List D → Store → R D := mDef 2 2 b_Frame____init__
def b_Machine____init__ : MS := (mSeq (mAsg (mOp getIx (mVar 1) (mC (.int (2)))) (mGFld ["Machine"] "routines" (mVar 0)))
  (mSeq (mAsg mDNew (mGFld ["Machine"] "known" (mVar 0)))
  (mAsg (mNew (mFits (mCons (mMake "Frame" m_Frame____init__ (mCons (mOp getIx (mVar 1) (mC (.int (1)))) mNil)) mNil))) (mGFld ["Machine"] "frames" (mVar 0)))))
/-- Machine.__init__ -/
def m_Machine____init__ : List D → Store → R D := mDef 2 2 b_Machine____init__
def b_Machine__call : MS := (mSeq (mIfS (mB (mOp (dIn false) (mVar 1) (mFld ["Machine"] "known" (mVar 0)))) (mSeq (mDrop (mBM isLst bAppend (mFld ["Frame"] "stack" (mOp getIx (mFld ["Machine"] "frames" (mVar 0)) (mUn opNeg (mC (.int (1)))))) (mCons (mOp getIx (mFld ["Machine"] "known" (mVar 0)) (mVar 1)) mNil)))
  (mRet (mC .non))) mNext)
  (mSeq (mAsg (mNew (mLc (mIS (mFld ["Machine"] "frames" (mVar 0))) [3] (mGN 3) mYes (mFld ["Frame"] "position" (mVar 3)))) (mGN 2))
  (mSeq (mIfS (mB (mOp (dIn false) (mVar 1) (mVar 2))) (mRet (mTup (mCons (mC (.str "fault")) (mCons (mC (.str "ring")) (mCons (mCall bMinL (mCons (mSl (mVar 2) (mSome (mBM isLst bIndex (mVar 2) (mCons (mVar 1) mNil))) mNo) mNil)) mNil))))) mNext)
  (mSeq (mDrop (mBM isLst bAppend (mFld ["Machine"] "frames" (mVar 0)) (mCons (mMake "Frame" m_Frame____init__ (mCons (mVar 1) mNil)) mNil)))
  (mRet (mC .non))))))
/-- Machine.call -/
def m_Machine__call : List D → Store → R D := mDef 2 4 b_Machine__call
def b_Machine__close_loop : MS := (mSeq (mAsg (mOp getIx (mFld ["Machine"] "frames" (mVar 0)) (mUn opNeg (mC (.int (1))))) (mGN 2))
  (mSeq (mAsg (mOp getIx (mFld ["Frame"] "loops" (mVar 2)) (mUn opNeg (mC (.int (1))))) (mGN 3))
  (mSeq (mAsg (mBM isLst bPop (mFld ["Frame"] "stack" (mVar 2)) mNil) (mGSub (mVar 3) (mC (.int (1)))))
  (mSeq (mAsg (mOp opAdd (mOp getIx (mVar 3) (mC (.int (2)))) (mC (.int (1)))) (mGSub (mVar 3) (mC (.int (2)))))
  (mIfS (mB (mOp opLt (mOp getIx (mVar 3) (mC (.int (2)))) (mOp getIx (mVar 3) (mC (.int (0)))))) (mAsg (mVar 1) (mGFld ["Frame"] "place" (mVar 2))) (mSeq (mDrop (mBM isLst bPop (mFld ["Frame"] "loops" (mVar 2)) mNil))
  (mDrop (mBM isLst bAppend (mFld ["Frame"] "stack" (mVar 2)) (mCons (mOp getIx (mVar 3) (mC (.int (1)))) mNil)))))))))
/-- Machine.close_loop -/
def m_Machine__close_loop : List D → Store → R D := mDef 2 4 b_Machine__close_loop
def b_Machine__come_back : MS := (mSeq (mAsg (mBM isLst bPop (mFld ["Machine"] "frames" (mVar 0)) mNil) (mGN 1))
  (mSeq (mAsg (mBM isLst bPop (mFld ["Frame"] "stack" (mVar 1)) mNil) (mGN 2))
  (mSeq (mAsg (mVar 2) (mGSub (mFld ["Machine"] "known" (mVar 0)) (mFld ["Frame"] "position" (mVar 1))))
  (mSeq (mIfS (mB (mOp opEq (mFld ["Machine"] "frames" (mVar 0)) (mNew (mFits mNil)))) (mRet (mTup (mCons (mC (.str "value")) (mCons (mVar 2) mNil)))) mNext)
  (mSeq (mDrop (mBM isLst bAppend (mFld ["Frame"] "stack" (mOp getIx (mFld ["Machine"] "frames" (mVar 0)) (mUn opNeg (mC (.int (1)))))) (mCons (mVar 2) mNil)))
  (mRet (mC .non)))))))
/-- Machine.come_back -/
def m_Machine__come_back : List D → Store → R D := mDef 1 3 b_Machine__come_back
def b_Machine__stop : MS := (mRet (mTup (mCons (mC (.str "fault")) (mCons (mVar 1) (mCons (mFld ["Frame"] "position" (mOp getIx (mFld ["Machine"] "frames" (mVar 0)) (mUn opNeg (mC (.int (1)))))) mNil)))))
/-- Machine.stop -/
def m_Machine__stop : List D → Store → R D := mDef 2 2 b_Machine__stop
def b_operated : MS := (mSeq (mIfS (mAndT (mB (mOp (dIn false) (mVar 0) (mTup (mCons (mC (.str "over")) (mCons (mC (.str "left")) mNil))))) (mB (mOp opEq (mVar 2) (mC (.int (0)))))) (mRet (mC (.str "nought"))) mNext)
  (mSeq (mIfS (mB (mOp opEq (mVar 0) (mC (.str "add")))) (mAsg (mOp opAdd (mVar 1) (mVar 2)) (mGN 3)) (mIfS (mB (mOp opEq (mVar 0) (mC (.str "less")))) (mAsg (mOp opSub (mVar 1) (mVar 2)) (mGN 3)) (mIfS (mB (mOp opEq (mVar 0) (mC (.str "times")))) (mAsg (mOp opMul (mVar 1) (mVar 2)) (mGN 3)) (mIfS (mB (mOp opEq (mVar 0) (mC (.str "over")))) (mAsg (mOp opFdiv (mVar 1) (mVar 2)) (mGN 3)) (mIfS (mB (mOp opEq (mVar 0) (mC (.str "left")))) (mAsg (mOp opMod (mVar 1) (mVar 2)) (mGN 3)) (mAsg (mCall bInt (mCons (mIf (mB (mOp opEq (mVar 0) (mC (.str "below")))) (mOp opLt (mVar 1) (mVar 2)) (mOp opEq (mVar 1) (mVar 2))) mNil)) (mGN 3)))))))
  (mRet (mIf (mB (mOp opLe (mCall bAbs (mCons (mVar 3) mNil)) (mC (.int (1000000000000))))) (mVar 3) (mC (.str "great"))))))
/-- operated -/
def m_operated : List D → Store → R D := mDef 3 4 b_operated
def b_Machine__operate : MS := (mSeq (mAsg (mFld ["Frame"] "stack" (mOp getIx (mFld ["Machine"] "frames" (mVar 0)) (mUn opNeg (mC (.int (1)))))) (mGN 2))
  (mSeq (mAsg (mBM isLst bPop (mVar 2) mNil) (mGN 3))
  (mSeq (mAsg (mBM isLst bPop (mVar 2) mNil) (mGN 4))
  (mSeq (mAsg (mCall m_operated (mCons (mVar 1) (mCons (mVar 4) (mCons (mVar 3) mNil)))) (mGN 5))
  (mSeq (mIfS (mB (mIsB "str" (mVar 5))) (mRet (mMeth "Machine" "stop" m_Machine__stop (mVar 0) (mCons (mVar 5) mNil))) mNext)
  (mSeq (mDrop (mBM isLst bAppend (mVar 2) (mCons (mVar 5) mNil)))
  (mRet (mC .non))))))))
/-- Machine.operate -/
def m_Machine__operate : List D → Store → R D := mDef 2 6 b_Machine__operate
def b_Machine__do_lone : MS := (mSeq (mAsg (mOp getIx (mFld ["Machine"] "frames" (mVar 0)) (mUn opNeg (mC (.int (1))))) (mGN 2))
  (mSeq (mIfS (mB (mOp (dIn false) (mVar 1) (mC c_OPERATIONS))) (mRet (mMeth "Machine" "operate" m_Machine__operate (mVar 0) (mCons (mVar 1) mNil))) mNext)
  (mSeq (mIfS (mB (mOp opEq (mVar 1) (mC (.str "return")))) (mRet (mMeth "Machine" "come_back" m_Machine__come_back (mVar 0) mNil)) mNext)
  (mSeq (mDrop (mBM isLst bAppend (mFld ["Frame"] "stack" (mVar 2)) (mCons (mOp getIx (mOp getIx (mFld ["Frame"] "loops" (mVar 2)) (mUn opNeg (mC (.int (1))))) (mIf (mB (mOp opEq (mVar 1) (mC (.str "so far")))) (mC (.int (1))) (mC (.int (2))))) mNil)))
  (mRet (mC .non))))))
/-- Machine.do_lone -/
def m_Machine__do_lone : List D → Store → R D := mDef 2 3 b_Machine__do_lone
def b_Machine__open_loop : MS := (mSeq (mAsg (mOp getIx (mFld ["Machine"] "frames" (mVar 0)) (mUn opNeg (mC (.int (1))))) (mGN 2))
  (mSeq (mAsg (mBM isLst bPop (mFld ["Frame"] "stack" (mVar 2)) mNil) (mGN 3))
  (mSeq (mAsg (mBM isLst bPop (mFld ["Frame"] "stack" (mVar 2)) mNil) (mGN 4))
  (mSeq (mIfS (mB (mOp opGt (mVar 4) (mC (.int (200))))) (mRet (mMeth "Machine" "stop" m_Machine__stop (mVar 0) (mCons (mC (.str "long")) mNil))) mNext)
  (mSeq (mIfS (mB (mOp opLt (mVar 4) (mC (.int (1))))) (mSeq (mDrop (mBM isLst bAppend (mFld ["Frame"] "stack" (mVar 2)) (mCons (mVar 3) mNil)))
  (mAsg (mVar 1) (mGFld ["Frame"] "place" (mVar 2)))) (mDrop (mBM isLst bAppend (mFld ["Frame"] "loops" (mVar 2)) (mCons (mNew (mFits (mCons (mVar 4) (mCons (mVar 3) (mCons (mC (.int (0))) mNil))))) mNil))))
  (mRet (mC .non)))))))
/-- Machine.open_loop -/
def m_Machine__open_loop : List D → Store → R D := mDef 2 5 b_Machine__open_loop
def b_Machine__step : MS := (mSeq (mAsg (mOp getIx (mFld ["Machine"] "frames" (mVar 0)) (mUn opNeg (mC (.int (1))))) (mGN 1))
  (mSeq (mAsg (mOp getIx (mOp getIx (mFld ["Machine"] "routines" (mVar 0)) (mFld ["Frame"] "position" (mVar 1))) (mFld ["Frame"] "place" (mVar 1))) (mGN 2))
  (mSeq (mAsg (mTup (mCons (mOp opAdd (mFld ["Frame"] "place" (mVar 1)) (mC (.int (1)))) (mCons (mOp getIx (mVar 2) (mC (.int (0)))) mNil))) (mGT 2 (mGCons (mGFld ["Frame"] "place" (mVar 1)) (mGCons (mGN 3) mGNil))))
  (mSeq (mIfS (mB (mOp opEq (mCall bLen (mCons (mVar 2) mNil)) (mC (.int (1))))) (mRet (mMeth "Machine" "do_lone" m_Machine__do_lone (mVar 0) (mCons (mVar 3) mNil))) mNext)
  (mSeq (mAsg (mOp getIx (mVar 2) (mC (.int (1)))) (mGN 4))
  (mSeq (mIfS (mB (mOp opEq (mVar 3) (mC (.str "push")))) (mDrop (mBM isLst bAppend (mFld ["Frame"] "stack" (mVar 1)) (mCons (mVar 4) mNil))) (mIfS (mB (mOp opEq (mVar 3) (mC (.str "call")))) (mRet (mMeth "Machine" "call" m_Machine__call (mVar 0) (mCons (mVar 4) mNil))) (mIfS (mB (mOp opEq (mVar 3) (mC (.str "fault")))) (mRet (mMeth "Machine" "stop" m_Machine__stop (mVar 0) (mCons (mVar 4) mNil))) (mIfS (mB (mOp opEq (mVar 3) (mC (.str "open")))) (mRet (mMeth "Machine" "open_loop" m_Machine__open_loop (mVar 0) (mCons (mVar 4) mNil))) (mIfS (mB (mOp opEq (mVar 3) (mC (.str "close")))) (mDrop (mMeth "Machine" "close_loop" m_Machine__close_loop (mVar 0) (mCons (mVar 4) mNil))) (mIfS (mOrT (mB (mOp opEq (mVar 3) (mC (.str "go")))) (mB (mOp opEq (mBM isLst bPop (mFld ["Frame"] "stack" (mVar 1)) mNil) (mC (.int (0)))))) (mAsg (mVar 4) (mGFld ["Frame"] "place" (mVar 1))) mNext))))))
  (mRet (mC .non))))))))
/-- Machine.step -/
def m_Machine__step : List D → Store → R D := mDef 1 5 b_Machine__step
def b_run_of : MS := (mSeq (mAsg (mMake "Machine" m_Machine____init__ (mCons (mVar 0) mNil)) (mGN 2))
  (mSeq (mFor (mRng2 (mC (.int (1))) (mOp opAdd (mVar 1) (mC (.int (1))))) (mGN 3) (mSeq (mAsg (mMeth "Machine" "step" m_Machine__step (mVar 2) mNil) (mGN 4))
  (mIfS (mB (mOp opIsNot (mVar 4) (mC .non))) (mRet (mOp opAdd (mVar 4) (mTup (mCons (mVar 3) mNil)))) mNext)))
  (mRet (mTup (mCons (mC (.str "on")) (mCons (mVar 1) mNil))))))
/-- run_of -/
def m_run_of : List D → Store → R D := mDef 2 5 b_run_of
def b_want_code : MS := (mSeq (mIfS (mNotT (mB (mCall m_is_code_value (mCons (mVar 0) mNil)))) mNever mNext)
  (mRet (mVar 0)))
/-- want_code -/
def m_want_code : List D → Store → R D := mDef 1 1 b_want_code
def b_run : MS := (mSeq (mAsg (mCall m_want_code (mCons (mVar 0) mNil)) (mGN 2))
  (mSeq (mIfS (mOrT (mNotT (mB (mCall m_is_count (mCons (mVar 1) mNil)))) (mB (mOp opGt (mVar 1) (mC (.int (60000)))))) mNever mNext)
  (mRet (mCall m_run_of (mCons (mVar 2) (mCons (mVar 1) mNil))))))
/-- run -/
def m_run : List D → Store → R D := mDef 2 3 b_run
def b_L_law_great_right : MS := (mSeq (mAsg (mCall m_L_law_great (mCons (mVar 0) mNil)) (mGN 1))
  (mSeq (mAsg (mCall m_L_law_run (mCons (mVar 1) (mCons (mC (.int (60000))) mNil))) (mGN 2))
  (mSeq (mIfS (mOrT (mB (mOp opIsNot (mCall m_is_code (mCons (mVar 1) mNil)) (mC (.bl true)))) (mB (mOp opNe (mCall bRepr (mCons (mCall m_run (mCons (mVar 1) (mCons (mC (.int (60000))) mNil))) mNil)) (mCall bRepr (mCons (mVar 2) mNil))))) (mRet (mC (.bl false))) mNext)
  (mSeq (mAsg (mCall bMax2 (mCons (mC (.int (0))) (mCons (mOp opSub (mOp opSub (mOp getIx (mVar 2) (mUn opNeg (mC (.int (1))))) (mC (.int (1)))) (mCall m_L_law_draw (mCons (mVar 0) (mCons (mC (.int (2))) mNil)))) mNil))) (mGN 3))
  (mRet (mOp opEq (mCall bRepr (mCons (mCall (fun ds => m_run (permSw ds)) (mCons (mVar 3) (mCons (mVar 1) mNil))) mNil)) (mCall bRepr (mCons (mTup (mCons (mC (.str "on")) (mCons (mVar 3) mNil))) mNil))))))))
/-- _law_great_right -/
def m_L_law_great_right : List D → Store → R D := mDef 1 4 b_L_law_great_right
def b_L_law_right : MS := (mSeq (mIfS (mB (mOp opEq (mCall m_L_law_draw (mCons (mVar 0) (mCons (mC (.int (8))) mNil))) (mC (.int (0))))) (mRet (mCall m_L_law_great_right (mCons (mVar 0) mNil))) mNext)
  (mSeq (mAsg (mCall m_L_law_code (mCons (mVar 0) mNil)) (mGN 1))
  (mSeq (mPar 2 3 (mCall bRepr (mCons (mVar 1) mNil)) (mCall m_L_law_run (mCons (mVar 1) (mCons (mC (.int (150))) mNil))))
  (mSeq (mIfS (mOrT (mB (mOp opIsNot (mCall m_is_code (mCons (mVar 1) mNil)) (mC (.bl true)))) (mB (mOp opNe (mCall bRepr (mCons (mCall m_run (mCons (mVar 1) (mCons (mC (.int (150))) mNil))) mNil)) (mCall bRepr (mCons (mVar 3) mNil))))) (mRet (mC (.bl false))) mNext)
  (mSeq (mAsg (mOp getIx (mVar 3) (mUn opNeg (mC (.int (1))))) (mGN 4))
  (mSeq (mFor (mIS (mNew (mFits (mCons (mC (.int (0))) (mCons (mCall bMax2 (mCons (mC (.int (0))) (mCons (mOp opSub (mVar 4) (mC (.int (1)))) mNil))) (mCons (mVar 4) (mCons (mOp opFdiv (mVar 4) (mC (.int (2)))) (mCons (mOp opAdd (mOp opAdd (mVar 4) (mC (.int (1)))) (mCall m_L_law_draw (mCons (mVar 0) (mCons (mC (.int (9))) mNil)))) mNil)))))))) (mGN 5) (mIfS (mAndT (mB (mOp opLe (mVar 5) (mC (.int (150))))) (mB (mOp opNe (mCall bRepr (mCons (mCall (fun ds => m_run (permSw ds)) (mCons (mVar 5) (mCons (mVar 1) mNil))) mNil)) (mCall bRepr (mCons (mCall m_L_law_run (mCons (mVar 1) (mCons (mVar 5) mNil))) mNil))))) (mRet (mC (.bl false))) mNext))
  (mRet (mOp opEq (mCall bRepr (mCons (mVar 1) mNil)) (mVar 2)))))))))
/-- _law_right -/
def m_L_law_right : List D → Store → R D := mDef 1 6 b_L_law_right
def b_law : MS := (mRet (mCall m_L_law_right (mCons (mCall m_L_law_pot (mCons (mVar 0) (mCons (mC (.int (0))) mNil))) mNil)))
/-- law -/
def m_law : List D → Store → R D := mDef 1 1 b_law
end PP

/-! Printed by gen.py: what the top has. -/
namespace PP
open PySem L2 MM
def top (i : Nat) : Stmt := PySem.Challenge.pw_nearestpattern_k83_whole_runs_of_codes.main.body.getD i (.Pass ⟨0, 0, 0, 0⟩)
abbrev s_L_law_pot : Stmt := top 33
abbrev s_L_law_draw : Stmt := top 34
abbrev s_L_law_pick : Stmt := top 35
abbrev s_L_law_leaf : Stmt := top 36
abbrev s_L_law_drawn : Stmt := top 37
abbrev s_L_law_laid : Stmt := top 38
abbrev s_L_law_routine : Stmt := top 39
abbrev s_L_law_code : Stmt := top 46
abbrev s_L_law_great : Stmt := top 47
abbrev s_L_law_called : Stmt := top 44
abbrev s_L_law_closed : Stmt := top 42
abbrev s_L_law_opened : Stmt := top 41
abbrev s_L_law_operated : Stmt := top 40
abbrev s_L_law_done : Stmt := top 43
abbrev s_L_law_run : Stmt := top 45
abbrev s_is_integer : Stmt := top 5
abbrev s_is_count : Stmt := top 6
abbrev s_is_instruction : Stmt := top 18
abbrev s_is_routine_form : Stmt := top 19
abbrev s_stands_behind : Stmt := top 22
abbrev s_stands_of : Stmt := top 23
abbrev s_is_code_value : Stmt := top 20
abbrev s_is_code : Stmt := top 24
abbrev s_Frame____init__ : Stmt := inClass (top 28) 0
abbrev s_Machine____init__ : Stmt := inClass (top 29) 0
abbrev s_Machine__call : Stmt := inClass (top 29) 2
abbrev s_Machine__close_loop : Stmt := inClass (top 29) 6
abbrev s_Machine__come_back : Stmt := inClass (top 29) 3
abbrev s_Machine__stop : Stmt := inClass (top 29) 1
abbrev s_operated : Stmt := top 17
abbrev s_Machine__operate : Stmt := inClass (top 29) 4
abbrev s_Machine__do_lone : Stmt := inClass (top 29) 7
abbrev s_Machine__open_loop : Stmt := inClass (top 29) 5
abbrev s_Machine__step : Stmt := inClass (top 29) 8
abbrev s_run_of : Stmt := top 30
abbrev s_want_code : Stmt := top 21
abbrev s_run : Stmt := top 31
abbrev s_L_law_great_right : Stmt := top 48
abbrev s_L_law_right : Stmt := top 49
abbrev s_law : Stmt := top 50
structure Tx (K : PySem.W.Frag) (mg : Str → Option Value) where
  a_L_law_pot : Addr
  d_L_law_pot : FuncData
  F_L_law_pot : Fun K "_law_pot" "_law_pot" s_L_law_pot a_L_law_pot d_L_law_pot
  b_L_law_pot : Binds K d_L_law_pot ["script", "k"] []
  m_L_law_pot : mg "_law_pot" = some (.ref a_L_law_pot)
  a_L_law_draw : Addr
  d_L_law_draw : FuncData
  F_L_law_draw : Fun K "_law_draw" "_law_draw" s_L_law_draw a_L_law_draw d_L_law_draw
  b_L_law_draw : Binds K d_L_law_draw ["pot", "sides"] []
  m_L_law_draw : mg "_law_draw" = some (.ref a_L_law_draw)
  a_L_law_pick : Addr
  d_L_law_pick : FuncData
  F_L_law_pick : Fun K "_law_pick" "_law_pick" s_L_law_pick a_L_law_pick d_L_law_pick
  b_L_law_pick : Binds K d_L_law_pick ["pot", "some"] []
  m_L_law_pick : mg "_law_pick" = some (.ref a_L_law_pick)
  a_L_law_leaf : Addr
  d_L_law_leaf : FuncData
  F_L_law_leaf : Fun K "_law_leaf" "_law_leaf" s_L_law_leaf a_L_law_leaf d_L_law_leaf
  b_L_law_leaf : Binds K d_L_law_leaf ["pot", "inner", "many"] []
  m_L_law_leaf : mg "_law_leaf" = some (.ref a_L_law_leaf)
  a_L_law_drawn : Addr
  d_L_law_drawn : FuncData
  F_L_law_drawn : Fun K "_law_drawn" "_law_drawn" s_L_law_drawn a_L_law_drawn d_L_law_drawn
  b_L_law_drawn : Binds K d_L_law_drawn ["pot", "depth", "inner", "many"] []
  m_L_law_drawn : mg "_law_drawn" = some (.ref a_L_law_drawn)
  a_L_law_laid : Addr
  d_L_law_laid : FuncData
  F_L_law_laid : Fun K "_law_laid" "_law_laid" s_L_law_laid a_L_law_laid d_L_law_laid
  b_L_law_laid : Binds K d_L_law_laid ["expression", "spot"] []
  m_L_law_laid : mg "_law_laid" = some (.ref a_L_law_laid)
  a_L_law_routine : Addr
  d_L_law_routine : FuncData
  F_L_law_routine : Fun K "_law_routine" "_law_routine" s_L_law_routine a_L_law_routine d_L_law_routine
  b_L_law_routine : Binds K d_L_law_routine ["pot", "depth", "many"] []
  m_L_law_routine : mg "_law_routine" = some (.ref a_L_law_routine)
  a_L_law_code : Addr
  d_L_law_code : FuncData
  F_L_law_code : Fun K "_law_code" "_law_code" s_L_law_code a_L_law_code d_L_law_code
  b_L_law_code : Binds K d_L_law_code ["pot"] []
  m_L_law_code : mg "_law_code" = some (.ref a_L_law_code)
  a_L_law_great : Addr
  d_L_law_great : FuncData
  F_L_law_great : Fun K "_law_great" "_law_great" s_L_law_great a_L_law_great d_L_law_great
  b_L_law_great : Binds K d_L_law_great ["pot"] []
  m_L_law_great : mg "_law_great" = some (.ref a_L_law_great)
  a_L_law_called : Addr
  d_L_law_called : FuncData
  F_L_law_called : Fun K "_law_called" "_law_called" s_L_law_called a_L_law_called d_L_law_called
  b_L_law_called : Binds K d_L_law_called ["frames", "known", "position"] []
  m_L_law_called : mg "_law_called" = some (.ref a_L_law_called)
  a_L_law_closed : Addr
  d_L_law_closed : FuncData
  F_L_law_closed : Fun K "_law_closed" "_law_closed" s_L_law_closed a_L_law_closed d_L_law_closed
  b_L_law_closed : Binds K d_L_law_closed ["frame", "spot"] []
  m_L_law_closed : mg "_law_closed" = some (.ref a_L_law_closed)
  a_L_law_opened : Addr
  d_L_law_opened : FuncData
  F_L_law_opened : Fun K "_law_opened" "_law_opened" s_L_law_opened a_L_law_opened d_L_law_opened
  b_L_law_opened : Binds K d_L_law_opened ["frame", "spot"] []
  m_L_law_opened : mg "_law_opened" = some (.ref a_L_law_opened)
  a_L_law_operated : Addr
  d_L_law_operated : FuncData
  F_L_law_operated : Fun K "_law_operated" "_law_operated" s_L_law_operated a_L_law_operated d_L_law_operated
  b_L_law_operated : Binds K d_L_law_operated ["word", "one", "two"] []
  m_L_law_operated : mg "_law_operated" = some (.ref a_L_law_operated)
  a_L_law_done : Addr
  d_L_law_done : FuncData
  F_L_law_done : Fun K "_law_done" "_law_done" s_L_law_done a_L_law_done d_L_law_done
  b_L_law_done : Binds K d_L_law_done ["frame", "instruction"] []
  m_L_law_done : mg "_law_done" = some (.ref a_L_law_done)
  a_L_law_run : Addr
  d_L_law_run : FuncData
  F_L_law_run : Fun K "_law_run" "_law_run" s_L_law_run a_L_law_run d_L_law_run
  b_L_law_run : Binds K d_L_law_run ["code", "most"] []
  m_L_law_run : mg "_law_run" = some (.ref a_L_law_run)
  a_is_integer : Addr
  d_is_integer : FuncData
  F_is_integer : Fun K "is_integer" "is_integer" s_is_integer a_is_integer d_is_integer
  b_is_integer : Binds K d_is_integer ["value"] []
  m_is_integer : mg "is_integer" = some (.ref a_is_integer)
  a_is_count : Addr
  d_is_count : FuncData
  F_is_count : Fun K "is_count" "is_count" s_is_count a_is_count d_is_count
  b_is_count : Binds K d_is_count ["value"] []
  m_is_count : mg "is_count" = some (.ref a_is_count)
  a_is_instruction : Addr
  d_is_instruction : FuncData
  F_is_instruction : Fun K "is_instruction" "is_instruction" s_is_instruction a_is_instruction d_is_instruction
  b_is_instruction : Binds K d_is_instruction ["value", "spots", "routines"] []
  m_is_instruction : mg "is_instruction" = some (.ref a_is_instruction)
  a_is_routine_form : Addr
  d_is_routine_form : FuncData
  F_is_routine_form : Fun K "is_routine_form" "is_routine_form" s_is_routine_form a_is_routine_form d_is_routine_form
  b_is_routine_form : Binds K d_is_routine_form ["value", "routines"] []
  m_is_routine_form : mg "is_routine_form" = some (.ref a_is_routine_form)
  a_stands_behind : Addr
  d_stands_behind : FuncData
  F_stands_behind : Fun K "stands_behind" "stands_behind" s_stands_behind a_stands_behind d_stands_behind
  b_stands_behind : Binds K d_stands_behind ["instruction", "at", "height", "loops"] []
  m_stands_behind : mg "stands_behind" = some (.ref a_stands_behind)
  a_stands_of : Addr
  d_stands_of : FuncData
  F_stands_of : Fun K "stands_of" "stands_of" s_stands_of a_stands_of d_stands_of
  b_stands_of : Binds K d_stands_of ["routine"] []
  m_stands_of : mg "stands_of" = some (.ref a_stands_of)
  a_is_code_value : Addr
  d_is_code_value : FuncData
  F_is_code_value : Fun K "is_code_value" "is_code_value" s_is_code_value a_is_code_value d_is_code_value
  b_is_code_value : Binds K d_is_code_value ["value"] []
  m_is_code_value : mg "is_code_value" = some (.ref a_is_code_value)
  a_is_code : Addr
  d_is_code : FuncData
  F_is_code : Fun K "is_code" "is_code" s_is_code a_is_code d_is_code
  b_is_code : Binds K d_is_code ["value"] []
  m_is_code : mg "is_code" = some (.ref a_is_code)
  a_Frame____init__ : Addr
  d_Frame____init__ : FuncData
  F_Frame____init__ : Fun K "__init__" "Frame.__init__" s_Frame____init__ a_Frame____init__ d_Frame____init__
  b_Frame____init__ : Binds K d_Frame____init__ ["self", "position"] []
  a_Machine____init__ : Addr
  d_Machine____init__ : FuncData
  F_Machine____init__ : Fun K "__init__" "Machine.__init__" s_Machine____init__ a_Machine____init__ d_Machine____init__
  b_Machine____init__ : Binds K d_Machine____init__ ["self", "code"] []
  a_Machine__call : Addr
  d_Machine__call : FuncData
  F_Machine__call : Fun K "call" "Machine.call" s_Machine__call a_Machine__call d_Machine__call
  b_Machine__call : Binds K d_Machine__call ["self", "position"] []
  a_Machine__close_loop : Addr
  d_Machine__close_loop : FuncData
  F_Machine__close_loop : Fun K "close_loop" "Machine.close_loop" s_Machine__close_loop a_Machine__close_loop d_Machine__close_loop
  b_Machine__close_loop : Binds K d_Machine__close_loop ["self", "spot"] []
  a_Machine__come_back : Addr
  d_Machine__come_back : FuncData
  F_Machine__come_back : Fun K "come_back" "Machine.come_back" s_Machine__come_back a_Machine__come_back d_Machine__come_back
  b_Machine__come_back : Binds K d_Machine__come_back ["self"] []
  a_Machine__stop : Addr
  d_Machine__stop : FuncData
  F_Machine__stop : Fun K "stop" "Machine.stop" s_Machine__stop a_Machine__stop d_Machine__stop
  b_Machine__stop : Binds K d_Machine__stop ["self", "word"] []
  a_operated : Addr
  d_operated : FuncData
  F_operated : Fun K "operated" "operated" s_operated a_operated d_operated
  b_operated : Binds K d_operated ["word", "one", "two"] []
  m_operated : mg "operated" = some (.ref a_operated)
  a_Machine__operate : Addr
  d_Machine__operate : FuncData
  F_Machine__operate : Fun K "operate" "Machine.operate" s_Machine__operate a_Machine__operate d_Machine__operate
  b_Machine__operate : Binds K d_Machine__operate ["self", "word"] []
  a_Machine__do_lone : Addr
  d_Machine__do_lone : FuncData
  F_Machine__do_lone : Fun K "do_lone" "Machine.do_lone" s_Machine__do_lone a_Machine__do_lone d_Machine__do_lone
  b_Machine__do_lone : Binds K d_Machine__do_lone ["self", "word"] []
  a_Machine__open_loop : Addr
  d_Machine__open_loop : FuncData
  F_Machine__open_loop : Fun K "open_loop" "Machine.open_loop" s_Machine__open_loop a_Machine__open_loop d_Machine__open_loop
  b_Machine__open_loop : Binds K d_Machine__open_loop ["self", "spot"] []
  a_Machine__step : Addr
  d_Machine__step : FuncData
  F_Machine__step : Fun K "step" "Machine.step" s_Machine__step a_Machine__step d_Machine__step
  b_Machine__step : Binds K d_Machine__step ["self"] []
  a_run_of : Addr
  d_run_of : FuncData
  F_run_of : Fun K "run_of" "run_of" s_run_of a_run_of d_run_of
  b_run_of : Binds K d_run_of ["code", "many"] []
  m_run_of : mg "run_of" = some (.ref a_run_of)
  a_want_code : Addr
  d_want_code : FuncData
  F_want_code : Fun K "want_code" "want_code" s_want_code a_want_code d_want_code
  b_want_code : Binds K d_want_code ["value"] []
  m_want_code : mg "want_code" = some (.ref a_want_code)
  a_run : Addr
  d_run : FuncData
  F_run : Fun K "run" "run" s_run a_run d_run
  b_run : Binds K d_run ["code", "many"] []
  m_run : mg "run" = some (.ref a_run)
  a_L_law_great_right : Addr
  d_L_law_great_right : FuncData
  F_L_law_great_right : Fun K "_law_great_right" "_law_great_right" s_L_law_great_right a_L_law_great_right d_L_law_great_right
  b_L_law_great_right : Binds K d_L_law_great_right ["pot"] []
  m_L_law_great_right : mg "_law_great_right" = some (.ref a_L_law_great_right)
  a_L_law_right : Addr
  d_L_law_right : FuncData
  F_L_law_right : Fun K "_law_right" "_law_right" s_L_law_right a_L_law_right d_L_law_right
  b_L_law_right : Binds K d_L_law_right ["pot"] []
  m_L_law_right : mg "_law_right" = some (.ref a_L_law_right)
  a_law : Addr
  d_law : FuncData
  F_law : Fun K "law" "law" s_law a_law d_law
  b_law : Binds K d_law ["script"] []
  m_law : mg "law" = some (.ref a_law)
  cls : Str → Addr
  c_Frame : Cls K (cls "Frame")
  mc_Frame : mg "Frame" = some (.ref (cls "Frame"))
  mk_Frame : Mk K (cls "Frame") a_Frame____init__
  c_Machine : Cls K (cls "Machine")
  mc_Machine : mg "Machine" = some (.ref (cls "Machine"))
  mk_Machine : Mk K (cls "Machine") a_Machine____init__
  me_Machine__call : Meth K (cls "Machine") "call" a_Machine__call
  me_Machine__close_loop : Meth K (cls "Machine") "close_loop" a_Machine__close_loop
  me_Machine__come_back : Meth K (cls "Machine") "come_back" a_Machine__come_back
  me_Machine__stop : Meth K (cls "Machine") "stop" a_Machine__stop
  me_Machine__operate : Meth K (cls "Machine") "operate" a_Machine__operate
  me_Machine__do_lone : Meth K (cls "Machine") "do_lone" a_Machine__do_lone
  me_Machine__open_loop : Meth K (cls "Machine") "open_loop" a_Machine__open_loop
  me_Machine__step : Meth K (cls "Machine") "step" a_Machine__step
  f_frames : FOk K cls ["Machine"] "frames"
  f_known : FOk K cls ["Machine"] "known"
  f_loops : FOk K cls ["Frame"] "loops"
  f_place : FOk K cls ["Frame"] "place"
  f_position : FOk K cls ["Frame"] "position"
  f_routines : FOk K cls ["Machine"] "routines"
  f_stack : FOk K cls ["Frame"] "stack"
  z_abs : mg "abs" = none
  z_all : mg "all" = none
  z_bool : mg "bool" = none
  z_divmod : mg "divmod" = none
  z_int : mg "int" = none
  z_isinstance : mg "isinstance" = none
  z_len : mg "len" = none
  z_max : mg "max" = none
  z_min : mg "min" = none
  z_range : mg "range" = none
  z_repr : mg "repr" = none
  z_str : mg "str" = none
  z_tuple : mg "tuple" = none
  t_CODE : Tok
  m_CODE : mg "CODE" = some (.str "code" t_CODE)
  a_FAULT_WORDS : Addr
  m_FAULT_WORDS : mg "FAULT_WORDS" = some (.ref a_FAULT_WORDS)
  v_FAULT_WORDS : ∀ α H, RV K α H (.ref a_FAULT_WORDS) c_FAULT_WORDS
  a_LONE_WORDS : Addr
  m_LONE_WORDS : mg "LONE_WORDS" = some (.ref a_LONE_WORDS)
  v_LONE_WORDS : ∀ α H, RV K α H (.ref a_LONE_WORDS) c_LONE_WORDS
  t_MOST_INSTRUCTIONS : Tok
  m_MOST_INSTRUCTIONS : mg "MOST_INSTRUCTIONS" = some (.int (1000) t_MOST_INSTRUCTIONS)
  t_MOST_NUMBER : Tok
  m_MOST_NUMBER : mg "MOST_NUMBER" = some (.int (1000000000000) t_MOST_NUMBER)
  t_MOST_ROUTINES : Tok
  m_MOST_ROUTINES : mg "MOST_ROUTINES" = some (.int (400) t_MOST_ROUTINES)
  t_MOST_STEPS : Tok
  m_MOST_STEPS : mg "MOST_STEPS" = some (.int (60000) t_MOST_STEPS)
  t_MOST_TIMES : Tok
  m_MOST_TIMES : mg "MOST_TIMES" = some (.int (200) t_MOST_TIMES)
  a_OPERATIONS : Addr
  m_OPERATIONS : mg "OPERATIONS" = some (.ref a_OPERATIONS)
  v_OPERATIONS : ∀ α H, RV K α H (.ref a_OPERATIONS) c_OPERATIONS
  a_PUTTING : Addr
  m_PUTTING : mg "PUTTING" = some (.ref a_PUTTING)
  v_PUTTING : ∀ α H, RV K α H (.ref a_PUTTING) c_PUTTING
  a_SPOT_WORDS : Addr
  m_SPOT_WORDS : mg "SPOT_WORDS" = some (.ref a_SPOT_WORDS)
  v_SPOT_WORDS : ∀ α H, RV K α H (.ref a_SPOT_WORDS) c_SPOT_WORDS
  kb_run_permSw : ∀ (s : Shared) (ws : List Value), (permSw ws).length = 2 → BindsTo s d_run ⟨[], (["many", "code"] : List Str).zip ws⟩ ((["code", "many"] : List Str).zip (permSw ws))
theorem permId_v {zs : List V} {ws : List Value} (h : Vals zs ws) : Vals (permId zs) (permId ws) := h
theorem permId_d {K : PySem.W.Frag} {α : List Addr} {H : Hp} {zs : List V} {ds : List D} (h : RVs K α H zs ds) : RVs K α H (permId zs) (permId ds) := h
theorem permSw_v {zs : List V} {ws : List Value} (h : Vals zs ws) : Vals (permSw zs) (permSw ws) := by
  cases h with
  | nil => exact .nil
  | cons a h =>
    cases h with
    | nil => exact .cons a .nil
    | cons b h =>
      cases h with
      | nil => exact .cons b (.cons a .nil)
      | cons c h => exact .cons a (.cons b (.cons c h))
theorem permSw_d {K : PySem.W.Frag} {α : List Addr} {H : Hp} {zs : List V} {ds : List D} (h : RVs K α H zs ds) : RVs K α H (permSw zs) (permSw ds) := by
  cases h with
  | nil => exact .nil
  | cons a h =>
    cases h with
    | nil => exact .cons a .nil
    | cons b h =>
      cases h with
      | nil => exact .cons b (.cons a .nil)
      | cons c h => exact .cons a (.cons b (.cons c h))
theorem fnG_zero {P : Program} {w : World} {K : PySem.W.Frag} {mg : Str → Option Value} {base : Heap} {k : Nat} {f : Addr} {fd : FuncData} {ps : List Str} {cls : Str → Addr} : FnG P w K mg base k f fd ps (spM K cls fun _ _ => .bad) :=
  ⟨fun vs H Q E ⟨_, _, _, _, _, _, p⟩ => p.elim, fun A outer s H args us vs Q E _ _ _ _ _ ⟨_, _, _, _, _, _, p⟩ => p.elim⟩
end PP

/-! Printed by gen.py: each def does what its function does. -/
namespace PP
open PySem L2 MM
variable {P : Program} {w : World} {K : PySem.W.Frag} {mg : Str → Option Value} {base : Heap}
theorem sc_L_law_pot : FnScope ["script", "k", "cell"] ["script", "k"] (defScope s_L_law_pot) := ⟨rfl, rfl, rfl, by decide +kernel, rfl, by decide +kernel, by decide +kernel⟩
set_option maxHeartbeats 4000000 in
theorem ok_L_law_pot (T : Tx K mg) : FnG P w K mg base 1 T.a_L_law_pot T.d_L_law_pot ["script", "k"] (spM K T.cls m_L_law_pot) := FnG.mono (j := 1) (fn_m (N := ["script", "k", "cell"]) (ps := ["script", "k"]) T.F_L_law_pot sc_L_law_pot fun cdv A outer s H E hr hgd =>
    have hx : Passes (L2.CX P w) (cxOf (L2.CX P w) P w K mg base ["script", "k", "cell"] "_law_pot" (defScope s_L_law_pot) T.a_L_law_pot cdv A outer s H E) E := passes_call (takes_of rfl rfl rfl rfl) fun _ _ _ _ h => h
    have hu := hu_of hr
    have hu64 := hr.units
    by exact (mss_cons (ms_asg (me_if (mt_cmp op_lt om_lt (me_var 1) (me_callB cr_len cm_len rfl T.z_len (by decide +kernel) (ma_cons (me_var 0) ma_nil)) (nomark _)) (me_callB call_abs cm_abs rfl T.z_abs (by decide +kernel) (ma_cons (me_ix (ix_u hu) om_ix (me_var 0) (me_var 1) (fun _ _ => rfl)) ma_nil)) (me_op or_add om_add (me_op or_mul om_mul me_int (me_var 1)) me_int)) (mg_name (i := 2) sc_L_law_pot.nd rfl (by first | exact .inl rfl | exact .inr rfl)))
  (mss_one (ms_ret (me_new (ml_lst (ma_cons (me_callB (call_max2 rfl) cm_max2 rfl T.z_max (by decide +kernel) (ma_cons me_int (ma_cons (me_op op_sub om_sub (me_var 2) (me_op op_pow om_pow me_int me_int)) ma_nil))) (ma_cons (me_op or_add om_add (me_op op_modN om_mod (me_callTy call_int1 cm_int rfl T.z_int (by decide +kernel) (ma_cons (me_op or_add om_add (me_op or_add om_add (me_op or_mul om_mul (me_op op_modN om_mod (me_callTy call_int1 cm_int rfl T.z_int (by decide +kernel) (ma_cons (me_var 2) ma_nil)) me_int) me_int) (me_op or_mul om_mul me_int (me_var 1))) me_int) ma_nil)) me_int) me_int) ma_nil)))))))) (by decide)
theorem sc_L_law_draw : FnScope ["pot", "sides", "digit"] ["pot", "sides"] (defScope s_L_law_draw) := ⟨rfl, rfl, rfl, by decide +kernel, rfl, by decide +kernel, by decide +kernel⟩
set_option maxHeartbeats 4000000 in
theorem ok_L_law_draw (T : Tx K mg) : FnG P w K mg base 1 T.a_L_law_draw T.d_L_law_draw ["pot", "sides"] (spM K T.cls m_L_law_draw) := FnG.mono (j := 1) (fn_m (N := ["pot", "sides", "digit"]) (ps := ["pot", "sides"]) T.F_L_law_draw sc_L_law_draw fun cdv A outer s H E hr hgd =>
    have hx : Passes (L2.CX P w) (cxOf (L2.CX P w) P w K mg base ["pot", "sides", "digit"] "_law_draw" (defScope s_L_law_draw) T.a_L_law_draw cdv A outer s H E) E := passes_call (takes_of rfl rfl rfl rfl) fun _ _ _ _ h => h
    have hu := hu_of hr
    have hu64 := hr.units
    by exact (mss_cons (ms_if (mt_cmp op_gt om_gt (me_ix (ix_u hu) om_ix (me_var 0) me_int (fun _ _ => rfl)) me_int (nomark _)) (mss_cons (ms_asg (me_callB call_divmod cm_divmod rfl T.z_divmod (by decide +kernel) (ma_cons (me_ix (ix_u hu) om_ix (me_var 0) me_int (fun _ _ => rfl)) (ma_cons (me_var 1) ma_nil))) (mg_tup (pg_tup rfl (mg_cons (mg_sub hu (me_var 0) me_int) (mg_cons (mg_name (i := 2) sc_L_law_draw.nd rfl (by first | exact .inl rfl | exact .inr rfl)) mg_nil)))))
  (mss_one (ms_ret (me_var 2)))) mss_nil)
  (mss_cons (ms_asg (me_op op_modN om_mod (me_callTy call_int1 cm_int rfl T.z_int (by decide +kernel) (ma_cons (me_op or_add om_add (me_op or_mul om_mul (me_ix (ix_u hu) om_ix (me_var 0) me_int (fun _ _ => rfl)) me_int) me_int) ma_nil)) me_int) (mg_sub hu (me_var 0) me_int))
  (mss_one (ms_ret (me_op op_modN om_mod (me_callTy call_int1 cm_int rfl T.z_int (by decide +kernel) (ma_cons (me_op op_fdivG om_fdiv (me_op op_modN om_mod (me_callTy call_int1 cm_int rfl T.z_int (by decide +kernel) (ma_cons (me_op or_mul om_mul (me_ix (ix_u hu) om_ix (me_var 0) me_int (fun _ _ => rfl)) (me_ix (ix_u hu) om_ix (me_var 0) me_int (fun _ _ => rfl))) ma_nil)) me_int) me_int) ma_nil)) (me_var 1))))))) (by decide)
theorem sc_L_law_pick : FnScope ["pot", "some"] ["pot", "some"] (defScope s_L_law_pick) := ⟨rfl, rfl, rfl, by decide +kernel, rfl, by decide +kernel, by decide +kernel⟩
set_option maxHeartbeats 4000000 in
theorem ok_L_law_pick (T : Tx K mg) : FnG P w K mg base 2 T.a_L_law_pick T.d_L_law_pick ["pot", "some"] (spM K T.cls m_L_law_pick) := FnG.mono (j := 2) (fn_m (N := ["pot", "some"]) (ps := ["pot", "some"]) T.F_L_law_pick sc_L_law_pick fun cdv A outer s H E hr hgd =>
    have hx : Passes (L2.CX P w) (cxOf (L2.CX P w) P w K mg base ["pot", "some"] "_law_pick" (defScope s_L_law_pick) T.a_L_law_pick cdv A outer s H E) E := passes_call (takes_of rfl rfl rfl rfl) fun _ _ _ _ h => h
    have hu := hu_of hr
    have hu64 := hr.units
    by exact (mss_one (ms_ret (me_ix (ix_u hu) om_ix (me_var 1) (me_call (ok_L_law_draw T) (hr.mono (by decide)) hgd rfl T.m_L_law_draw T.F_L_law_draw.kp T.b_L_law_draw hx (ma_cons (me_var 0) (ma_cons (me_callB cr_len cm_len rfl T.z_len (by decide +kernel) (ma_cons (me_var 1) ma_nil)) ma_nil))) (fun _ _ => rfl))))) (by decide)
theorem sc_L_law_leaf : FnScope ["pot", "inner", "many", "way"] ["pot", "inner", "many"] (defScope s_L_law_leaf) := ⟨rfl, rfl, rfl, by decide +kernel, rfl, by decide +kernel, by decide +kernel⟩
set_option maxHeartbeats 4000000 in
theorem ok_L_law_leaf (T : Tx K mg) : FnG P w K mg base 3 T.a_L_law_leaf T.d_L_law_leaf ["pot", "inner", "many"] (spM K T.cls m_L_law_leaf) := FnG.mono (j := 3) (fn_m (N := ["pot", "inner", "many", "way"]) (ps := ["pot", "inner", "many"]) T.F_L_law_leaf sc_L_law_leaf fun cdv A outer s H E hr hgd =>
    have hx : Passes (L2.CX P w) (cxOf (L2.CX P w) P w K mg base ["pot", "inner", "many", "way"] "_law_leaf" (defScope s_L_law_leaf) T.a_L_law_leaf cdv A outer s H E) E := passes_call (takes_of rfl rfl rfl rfl) fun _ _ _ _ h => h
    have hu := hu_of hr
    have hu64 := hr.units
    by exact (mss_cons (ms_asg (me_call (ok_L_law_draw T) (hr.mono (by decide)) hgd rfl T.m_L_law_draw T.F_L_law_draw.kp T.b_L_law_draw hx (ma_cons (me_var 0) (ma_cons me_int ma_nil))) (mg_name (i := 3) sc_L_law_leaf.nd rfl (by first | exact .inl rfl | exact .inr rfl)))
  (mss_cons (ms_if (mt_w (mt_and (mt_cmp op_lt om_lt (me_var 3) me_int (nomark _)) (mt_and1 (mt_cmp op_gt om_gt (me_var 2) me_int (nomark _))))) (mss_one (ms_ret (me_tup (ma_cons me_str (ma_cons (me_call (ok_L_law_draw T) (hr.mono (by decide)) hgd rfl T.m_L_law_draw T.F_L_law_draw.kp T.b_L_law_draw hx (ma_cons (me_var 0) (ma_cons (me_var 2) ma_nil))) ma_nil))))) mss_nil)
  (mss_cons (ms_if (mt_w (mt_and (mt_cmp op_lt om_lt (me_var 3) me_int (nomark _)) (mt_and1 (mt_cmp op_gt om_gt (me_var 1) me_int (nomark _))))) (mss_one (ms_ret (me_call (ok_L_law_pick T) (hr.mono (by decide)) hgd rfl T.m_L_law_pick T.F_L_law_pick.kp T.b_L_law_pick hx (ma_cons (me_var 0) (ma_cons (me_new (ml_lst (ma_cons (me_tup (ma_cons me_str ma_nil)) (ma_cons (me_tup (ma_cons me_str ma_nil)) (ma_cons (me_tup (ma_cons me_str ma_nil)) ma_nil))))) ma_nil))))) mss_nil)
  (mss_one (ms_ret (me_call (ok_L_law_pick T) (hr.mono (by decide)) hgd rfl T.m_L_law_pick T.F_L_law_pick.kp T.b_L_law_pick hx (ma_cons (me_var 0) (ma_cons (me_new (ml_lst (ma_cons me_int (ma_cons me_int (ma_cons me_int (ma_cons me_int (ma_cons (me_un un_neg om_neg me_int) (ma_cons (me_un un_neg om_neg me_int) (ma_cons me_int (ma_cons (me_op op_pow om_pow me_int me_int) (ma_cons me_int (ma_cons me_int ma_nil)))))))))))) ma_nil))))))))) (by decide)
theorem sc_L_law_drawn : FnScope ["pot", "depth", "inner", "many", "way", "word", "found", "turn", "times", "start"] ["pot", "depth", "inner", "many"] (defScope s_L_law_drawn) := ⟨rfl, rfl, rfl, by decide +kernel, rfl, by decide +kernel, by decide +kernel⟩
set_option maxHeartbeats 4000000 in
theorem okr_L_law_drawn (T : Tx K mg) (n : Nat) : FnG P w K mg base (3 + n) T.a_L_law_drawn T.d_L_law_drawn ["pot", "depth", "inner", "many"] (spM K T.cls (M_L_law_drawn n)) := by
  induction n with
  | zero => exact fnG_zero
  | succ n ih =>
    exact fn_m (k := 3 + n) (N := ["pot", "depth", "inner", "many", "way", "word", "found", "turn", "times", "start"]) (ps := ["pot", "depth", "inner", "many"]) T.F_L_law_drawn sc_L_law_drawn fun cdv A outer s H E hr hgd =>
    have hx : Passes (L2.CX P w) (cxOf (L2.CX P w) P w K mg base ["pot", "depth", "inner", "many", "way", "word", "found", "turn", "times", "start"] "_law_drawn" (defScope s_L_law_drawn) T.a_L_law_drawn cdv A outer s H E) E := passes_call (takes_of rfl rfl rfl rfl) fun _ _ _ _ h => h
    have hu := hu_of hr
    have hu64 := hr.units
    by exact (mss_cons (ms_asg (me_call (ok_L_law_draw T) (hr.mono (Nat.le_trans (by decide : 1 ≤ 3) (Nat.le_add_right 3 n))) hgd rfl T.m_L_law_draw T.F_L_law_draw.kp T.b_L_law_draw hx (ma_cons (me_var 0) (ma_cons me_int ma_nil))) (mg_name (i := 4) sc_L_law_drawn.nd rfl (by first | exact .inl rfl | exact .inr rfl)))
  (mss_cons (ms_if (mt_w (mt_or (mt_cmp (or_eq hu64) om_eq (me_var 1) me_int (nomark _)) (mt_or1 (mt_cmp op_lt om_lt (me_var 4) me_int (nomark _))))) (mss_one (ms_ret (me_call (ok_L_law_leaf T) (hr.mono (Nat.le_trans (by decide : 3 ≤ 3) (Nat.le_add_right 3 n))) hgd rfl T.m_L_law_leaf T.F_L_law_leaf.kp T.b_L_law_leaf hx (ma_cons (me_var 0) (ma_cons (me_var 2) (ma_cons (me_var 3) ma_nil)))))) mss_nil)
  (mss_cons (ms_if (mt_cmp op_lt om_lt (me_var 4) me_int (nomark _)) (mss_cons (ms_asg (me_call (ok_L_law_pick T) (hr.mono (Nat.le_trans (by decide : 2 ≤ 3) (Nat.le_add_right 3 n))) hgd rfl T.m_L_law_pick T.F_L_law_pick.kp T.b_L_law_pick hx (ma_cons (me_var 0) (ma_cons (me_new (ml_lst (ma_cons me_str (ma_cons me_str (ma_cons me_str (ma_cons me_str (ma_cons me_str (ma_cons me_str (ma_cons me_str ma_nil))))))))) ma_nil))) (mg_name (i := 5) sc_L_law_drawn.nd rfl (by first | exact .inl rfl | exact .inr rfl)))
  (mss_one (ms_ret (me_tup (ma_cons (me_var 5) (ma_cons (me_call ih (hr.mono (Nat.le_refl _)) hgd rfl T.m_L_law_drawn T.F_L_law_drawn.kp T.b_L_law_drawn hx (ma_cons (me_var 0) (ma_cons (me_op op_sub om_sub (me_var 1) me_int) (ma_cons (me_var 2) (ma_cons (me_var 3) ma_nil))))) (ma_cons (me_call ih (hr.mono (Nat.le_refl _)) hgd rfl T.m_L_law_drawn T.F_L_law_drawn.kp T.b_L_law_drawn hx (ma_cons (me_var 0) (ma_cons (me_op op_sub om_sub (me_var 1) me_int) (ma_cons (me_var 2) (ma_cons (me_var 3) ma_nil))))) ma_nil))))))) mss_nil)
  (mss_cons (ms_if (mt_w (mt_or (mt_cmp op_lt om_lt (me_var 4) me_int (nomark _)) (mt_or1 (mt_cmp op_gt om_gt (me_var 2) me_int (nomark _))))) (mss_cons (ms_asg (me_tup (ma_cons me_str ma_nil)) (mg_name (i := 6) sc_L_law_drawn.nd rfl (by first | exact .inl rfl | exact .inr rfl)))
  (mss_cons (ms_for (passes_of rfl) rfl (mi_rng1 rfl T.z_range me_int) (mg_name (i := 7) sc_L_law_drawn.nd rfl (by first | exact .inl rfl | exact .inr rfl)) (mss_one (ms_asg (me_op or_add om_add (me_var 6) (me_tup (ma_cons (me_call ih (hr.mono (Nat.le_refl _)) hgd rfl T.m_L_law_drawn T.F_L_law_drawn.kp T.b_L_law_drawn hx (ma_cons (me_var 0) (ma_cons (me_op op_sub om_sub (me_var 1) me_int) (ma_cons (me_var 2) (ma_cons (me_var 3) ma_nil))))) ma_nil))) (mg_name (i := 6) sc_L_law_drawn.nd rfl (by first | exact .inl rfl | exact .inr rfl)))))
  (mss_one (ms_ret (me_var 6))))) mss_nil)
  (mss_cons (ms_asg (me_call (ok_L_law_pick T) (hr.mono (Nat.le_trans (by decide : 2 ≤ 3) (Nat.le_add_right 3 n))) hgd rfl T.m_L_law_pick T.F_L_law_pick.kp T.b_L_law_pick hx (ma_cons (me_var 0) (ma_cons (me_new (ml_lst (ma_cons me_int (ma_cons me_int (ma_cons me_int (ma_cons me_int (ma_cons (me_un un_neg om_neg me_int) (ma_cons me_int (ma_cons me_int (ma_cons (me_tup (ma_cons me_str (ma_cons me_int (ma_cons me_int ma_nil)))) (ma_cons (me_call (ok_L_law_leaf T) (hr.mono (Nat.le_trans (by decide : 3 ≤ 3) (Nat.le_add_right 3 n))) hgd rfl T.m_L_law_leaf T.F_L_law_leaf.kp T.b_L_law_leaf hx (ma_cons (me_var 0) (ma_cons (me_var 2) (ma_cons (me_var 3) ma_nil)))) ma_nil))))))))))) ma_nil))) (mg_name (i := 8) sc_L_law_drawn.nd rfl (by first | exact .inl rfl | exact .inr rfl)))
  (mss_cons (ms_asg (me_call ih (hr.mono (Nat.le_refl _)) hgd rfl T.m_L_law_drawn T.F_L_law_drawn.kp T.b_L_law_drawn hx (ma_cons (me_var 0) (ma_cons (me_op op_sub om_sub (me_var 1) me_int) (ma_cons (me_var 2) (ma_cons (me_var 3) ma_nil))))) (mg_name (i := 9) sc_L_law_drawn.nd rfl (by first | exact .inl rfl | exact .inr rfl)))
  (mss_one (ms_ret (me_tup (ma_cons me_str (ma_cons (me_var 8) (ma_cons (me_var 9) (ma_cons (me_call ih (hr.mono (Nat.le_refl _)) hgd rfl T.m_L_law_drawn T.F_L_law_drawn.kp T.b_L_law_drawn hx (ma_cons (me_var 0) (ma_cons (me_op op_sub om_sub (me_var 1) me_int) (ma_cons (me_op or_add om_add (me_var 2) me_int) (ma_cons (me_var 3) ma_nil))))) ma_nil)))))))))))))
theorem ok_L_law_drawn (T : Tx K mg) : FnG P w K mg base 15 T.a_L_law_drawn T.d_L_law_drawn ["pot", "depth", "inner", "many"] (spM K T.cls (M_L_law_drawn 12)) := okr_L_law_drawn T 12
theorem sc_L_law_laid : FnScope ["expression", "spot", "word", "first", "one", "late", "other", "second", "begin", "step", "end"] ["expression", "spot"] (defScope s_L_law_laid) := ⟨rfl, rfl, rfl, by decide +kernel, rfl, by decide +kernel, by decide +kernel⟩
set_option maxHeartbeats 4000000 in
theorem okr_L_law_laid (T : Tx K mg) (n : Nat) : FnG P w K mg base (0 + n) T.a_L_law_laid T.d_L_law_laid ["expression", "spot"] (spM K T.cls (M_L_law_laid n)) := by
  induction n with
  | zero => exact fnG_zero
  | succ n ih =>
    exact fn_m (k := 0 + n) (N := ["expression", "spot", "word", "first", "one", "late", "other", "second", "begin", "step", "end"]) (ps := ["expression", "spot"]) T.F_L_law_laid sc_L_law_laid fun cdv A outer s H E hr hgd =>
    have hx : Passes (L2.CX P w) (cxOf (L2.CX P w) P w K mg base ["expression", "spot", "word", "first", "one", "late", "other", "second", "begin", "step", "end"] "_law_laid" (defScope s_L_law_laid) T.a_L_law_laid cdv A outer s H E) E := passes_call (takes_of rfl rfl rfl rfl) fun _ _ _ _ h => h
    have hu := hu_of hr
    have hu64 := hr.units
    by exact (mss_cons (ms_if (mt_b (me_isB rfl T.z_isinstance rfl T.z_int (by decide +kernel) (me_var 0))) (mss_one (ms_ret (me_new (ml_lst (ma_cons (me_tup (ma_cons me_str (ma_cons (me_var 0) ma_nil))) ma_nil))))) mss_nil)
  (mss_cons (ms_asg (me_ix (ix_u hu) om_ix (me_var 0) me_int (fun _ _ => rfl)) (mg_name (i := 2) sc_L_law_laid.nd rfl (by first | exact .inl rfl | exact .inr rfl)))
  (mss_cons (ms_if (mt_cmp (or_eq hu64) om_eq (me_var 2) me_str (nomark _)) (mss_one (ms_ret (me_new (ml_lst (ma_cons (me_tup (ma_cons me_str (ma_cons (me_ix (ix_u hu) om_ix (me_var 0) me_int (fun _ _ => rfl)) ma_nil))) ma_nil))))) mss_nil)
  (mss_cons (ms_if (mt_cmp (or_in hu) (om_in false) (me_var 2) (me_tup (ma_cons me_str (ma_cons me_str ma_nil))) rfl) (mss_one (ms_ret (me_new (ml_lst (ma_cons (me_var 0) ma_nil))))) mss_nil)
  (mss_cons (ms_asg (me_call ih (hr.mono (Nat.le_refl _)) hgd rfl T.m_L_law_laid T.F_L_law_laid.kp T.b_L_law_laid hx (ma_cons (me_ix (ix_u hu) om_ix (me_var 0) me_int (fun _ _ => rfl)) (ma_cons (me_var 1) ma_nil))) (mg_name (i := 3) sc_L_law_laid.nd rfl (by first | exact .inl rfl | exact .inr rfl)))
  (mss_cons (ms_if (mt_cmp (or_eq hu64) om_eq (me_var 2) me_str (nomark _)) (mss_cons (ms_asg (me_call ih (hr.mono (Nat.le_refl _)) hgd rfl T.m_L_law_laid T.F_L_law_laid.kp T.b_L_law_laid hx (ma_cons (me_ix (ix_u hu) om_ix (me_var 0) me_int (fun _ _ => rfl)) (ma_cons (me_op or_add om_add (me_op or_add om_add (me_var 1) (me_callB cr_len cm_len rfl T.z_len (by decide +kernel) (ma_cons (me_var 3) ma_nil))) me_int) ma_nil))) (mg_name (i := 4) sc_L_law_laid.nd rfl (by first | exact .inl rfl | exact .inr rfl)))
  (mss_cons (ms_asg (me_op or_add om_add (me_op or_add om_add (me_op or_add om_add (me_var 1) (me_callB cr_len cm_len rfl T.z_len (by decide +kernel) (ma_cons (me_var 3) ma_nil))) (me_callB cr_len cm_len rfl T.z_len (by decide +kernel) (ma_cons (me_var 4) ma_nil))) me_int) (mg_name (i := 5) sc_L_law_laid.nd rfl (by first | exact .inl rfl | exact .inr rfl)))
  (mss_cons (ms_asg (me_call ih (hr.mono (Nat.le_refl _)) hgd rfl T.m_L_law_laid T.F_L_law_laid.kp T.b_L_law_laid hx (ma_cons (me_ix (ix_u hu) om_ix (me_var 0) me_int (fun _ _ => rfl)) (ma_cons (me_var 5) ma_nil))) (mg_name (i := 6) sc_L_law_laid.nd rfl (by first | exact .inl rfl | exact .inr rfl)))
  (mss_one (ms_ret (me_op or_add om_add (me_op or_add om_add (me_op or_add om_add (me_op or_add om_add (me_var 3) (me_new (ml_lst (ma_cons (me_tup (ma_cons me_str (ma_cons (me_var 5) ma_nil))) ma_nil)))) (me_var 4)) (me_new (ml_lst (ma_cons (me_tup (ma_cons me_str (ma_cons (me_op or_add om_add (me_var 5) (me_callB cr_len cm_len rfl T.z_len (by decide +kernel) (ma_cons (me_var 6) ma_nil))) ma_nil))) ma_nil)))) (me_var 6))))))) mss_nil)
  (mss_cons (ms_asg (me_call ih (hr.mono (Nat.le_refl _)) hgd rfl T.m_L_law_laid T.F_L_law_laid.kp T.b_L_law_laid hx (ma_cons (me_ix (ix_u hu) om_ix (me_var 0) me_int (fun _ _ => rfl)) (ma_cons (me_op or_add om_add (me_var 1) (me_callB cr_len cm_len rfl T.z_len (by decide +kernel) (ma_cons (me_var 3) ma_nil))) ma_nil))) (mg_name (i := 7) sc_L_law_laid.nd rfl (by first | exact .inl rfl | exact .inr rfl)))
  (mss_cons (ms_if (mt_cmp (or_eq hu64) om_eq (me_var 2) me_str (nomark _)) (mss_cons (ms_asg (me_op or_add om_add (me_op or_add om_add (me_op or_add om_add (me_var 1) (me_callB cr_len cm_len rfl T.z_len (by decide +kernel) (ma_cons (me_var 3) ma_nil))) (me_callB cr_len cm_len rfl T.z_len (by decide +kernel) (ma_cons (me_var 7) ma_nil))) me_int) (mg_name (i := 8) sc_L_law_laid.nd rfl (by first | exact .inl rfl | exact .inr rfl)))
  (mss_cons (ms_asg (me_call ih (hr.mono (Nat.le_refl _)) hgd rfl T.m_L_law_laid T.F_L_law_laid.kp T.b_L_law_laid hx (ma_cons (me_ix (ix_u hu) om_ix (me_var 0) me_int (fun _ _ => rfl)) (ma_cons (me_var 8) ma_nil))) (mg_name (i := 9) sc_L_law_laid.nd rfl (by first | exact .inl rfl | exact .inr rfl)))
  (mss_cons (ms_asg (me_tup (ma_cons me_str (ma_cons (me_op or_add om_add (me_op or_add om_add (me_var 8) (me_callB cr_len cm_len rfl T.z_len (by decide +kernel) (ma_cons (me_var 9) ma_nil))) me_int) ma_nil))) (mg_name (i := 10) sc_L_law_laid.nd rfl (by first | exact .inl rfl | exact .inr rfl)))
  (mss_one (ms_ret (me_op or_add om_add (me_op or_add om_add (me_op or_add om_add (me_op or_add om_add (me_var 3) (me_var 7)) (me_new (ml_lst (ma_cons (me_var 10) ma_nil)))) (me_var 9)) (me_new (ml_lst (ma_cons (me_tup (ma_cons me_str (ma_cons (me_var 8) ma_nil))) ma_nil))))))))) mss_nil)
  (mss_one (ms_ret (me_op or_add om_add (me_op or_add om_add (me_var 3) (me_var 7)) (me_new (ml_lst (ma_cons (me_tup (ma_cons (me_var 2) ma_nil)) ma_nil))))))))))))))
theorem ok_L_law_laid (T : Tx K mg) : FnG P w K mg base 12 T.a_L_law_laid T.d_L_law_laid ["expression", "spot"] (spM K T.cls (M_L_law_laid 12)) := okr_L_law_laid T 12
theorem sc_L_law_routine : FnScope ["pot", "depth", "many"] ["pot", "depth", "many"] (defScope s_L_law_routine) := ⟨rfl, rfl, rfl, by decide +kernel, rfl, by decide +kernel, by decide +kernel⟩
set_option maxHeartbeats 4000000 in
theorem ok_L_law_routine (T : Tx K mg) : FnG P w K mg base 16 T.a_L_law_routine T.d_L_law_routine ["pot", "depth", "many"] (spM K T.cls m_L_law_routine) := FnG.mono (j := 16) (fn_m (N := ["pot", "depth", "many"]) (ps := ["pot", "depth", "many"]) T.F_L_law_routine sc_L_law_routine fun cdv A outer s H E hr hgd =>
    have hx : Passes (L2.CX P w) (cxOf (L2.CX P w) P w K mg base ["pot", "depth", "many"] "_law_routine" (defScope s_L_law_routine) T.a_L_law_routine cdv A outer s H E) E := passes_call (takes_of rfl rfl rfl rfl) fun _ _ _ _ h => h
    have hu := hu_of hr
    have hu64 := hr.units
    by exact (mss_one (ms_ret (me_callTy call_tuple_of cm_tup rfl T.z_tuple (by decide +kernel) (ma_cons (me_op or_add om_add (me_call (ok_L_law_laid T) (hr.mono (by decide)) hgd rfl T.m_L_law_laid T.F_L_law_laid.kp T.b_L_law_laid hx (ma_cons (me_call (ok_L_law_drawn T) (hr.mono (by decide)) hgd rfl T.m_L_law_drawn T.F_L_law_drawn.kp T.b_L_law_drawn hx (ma_cons (me_var 0) (ma_cons (me_var 1) (ma_cons me_int (ma_cons (me_var 2) ma_nil))))) (ma_cons me_int ma_nil))) (me_new (ml_lst (ma_cons (me_tup (ma_cons me_str ma_nil)) ma_nil)))) ma_nil))))) (by decide)
theorem sc_L_law_code : FnScope ["pot", "many", "routines", "is_ring", "at", "start"] ["pot"] (defScope s_L_law_code) := ⟨rfl, rfl, rfl, by decide +kernel, rfl, by decide +kernel, by decide +kernel⟩
set_option maxHeartbeats 4000000 in
theorem ok_L_law_code (T : Tx K mg) : FnG P w K mg base 17 T.a_L_law_code T.d_L_law_code ["pot"] (spM K T.cls m_L_law_code) := FnG.mono (j := 17) (fn_m (N := ["pot", "many", "routines", "is_ring", "at", "start"]) (ps := ["pot"]) T.F_L_law_code sc_L_law_code fun cdv A outer s H E hr hgd =>
    have hx : Passes (L2.CX P w) (cxOf (L2.CX P w) P w K mg base ["pot", "many", "routines", "is_ring", "at", "start"] "_law_code" (defScope s_L_law_code) T.a_L_law_code cdv A outer s H E) E := passes_call (takes_of rfl rfl rfl rfl) fun _ _ _ _ h => h
    have hu := hu_of hr
    have hu64 := hr.units
    by exact (mss_cons (ms_par (i := 1) (j := 2) rfl sc_L_law_code.nd rfl rfl (by decide) rfl rfl rfl (me_op or_add om_add me_int (me_call (ok_L_law_draw T) (hr.mono (by decide)) hgd rfl T.m_L_law_draw T.F_L_law_draw.kp T.b_L_law_draw hx (ma_cons (me_var 0) (ma_cons me_int ma_nil)))) (me_new (ml_lst ma_nil)))
  (mss_cons (ms_asg (me_cmp (or_eq hu64) om_eq (me_call (ok_L_law_draw T) (hr.mono (by decide)) hgd rfl T.m_L_law_draw T.F_L_law_draw.kp T.b_L_law_draw hx (ma_cons (me_var 0) (ma_cons me_int ma_nil))) me_int (nomark _)) (mg_name (i := 3) sc_L_law_code.nd rfl (by first | exact .inl rfl | exact .inr rfl)))
  (mss_cons (ms_for (passes_of rfl) rfl (mi_rng1 rfl T.z_range (me_var 1)) (mg_name (i := 4) sc_L_law_code.nd rfl (by first | exact .inl rfl | exact .inr rfl)) (mss_one (ms_expr (me_bm PySem.F.plainAttrs_list PySem.F.slot_list_append PySem.F.type_list_append mt_append bm_append (me_var 2) (ma_cons (me_call (ok_L_law_routine T) (hr.mono (by decide)) hgd rfl T.m_L_law_routine T.F_L_law_routine.kp T.b_L_law_routine hx (ma_cons (me_var 0) (ma_cons (me_if (mt_cmp (or_eq hu64) om_eq (me_var 4) me_int (nomark _)) me_int me_int) (ma_cons (me_if (mt_b (me_var 3)) (me_var 1) (me_var 4)) ma_nil)))) ma_nil)))))
  (mss_cons (ms_asg (me_if (mt_b (me_var 3)) (me_call (ok_L_law_draw T) (hr.mono (by decide)) hgd rfl T.m_L_law_draw T.F_L_law_draw.kp T.b_L_law_draw hx (ma_cons (me_var 0) (ma_cons (me_var 1) ma_nil))) (me_op op_sub om_sub (me_var 1) me_int)) (mg_name (i := 5) sc_L_law_code.nd rfl (by first | exact .inl rfl | exact .inr rfl)))
  (mss_one (ms_ret (me_tup (ma_cons me_str (ma_cons (me_var 5) (ma_cons (me_callTy call_tuple_of cm_tup rfl T.z_tuple (by decide +kernel) (ma_cons (me_var 2) ma_nil)) ma_nil))))))))))) (by decide)
end PP

/-! Printed by gen.py: each def does what its function does. -/
namespace PP
open PySem L2 MM
variable {P : Program} {w : World} {K : PySem.W.Frag} {mg : Str → Option Value} {base : Heap}
theorem sc_L_law_great : FnScope ["pot", "step", "inner", "found", "at", "end"] ["pot"] (defScope s_L_law_great) := ⟨rfl, rfl, rfl, by decide +kernel, rfl, by decide +kernel, by decide +kernel⟩
set_option maxHeartbeats 4000000 in
theorem ok_L_law_great (T : Tx K mg) : FnG P w K mg base 13 T.a_L_law_great T.d_L_law_great ["pot"] (spM K T.cls m_L_law_great) := FnG.mono (j := 13) (fn_m (N := ["pot", "step", "inner", "found", "at", "end"]) (ps := ["pot"]) T.F_L_law_great sc_L_law_great fun cdv A outer s H E hr hgd =>
    have hx : Passes (L2.CX P w) (cxOf (L2.CX P w) P w K mg base ["pot", "step", "inner", "found", "at", "end"] "_law_great" (defScope s_L_law_great) T.a_L_law_great cdv A outer s H E) E := passes_call (takes_of rfl rfl rfl rfl) fun _ _ _ _ h => h
    have hu := hu_of hr
    have hu64 := hr.units
    by exact (mss_cons (ms_asg (me_call (ok_L_law_pick T) (hr.mono (by decide)) hgd rfl T.m_L_law_pick T.F_L_law_pick.kp T.b_L_law_pick hx (ma_cons (me_var 0) (ma_cons (me_new (ml_lst (ma_cons (me_tup (ma_cons me_str (ma_cons (me_tup (ma_cons me_str ma_nil)) (ma_cons (me_tup (ma_cons me_str ma_nil)) ma_nil)))) (ma_cons (me_tup (ma_cons me_str (ma_cons (me_tup (ma_cons me_str (ma_cons (me_tup (ma_cons me_str ma_nil)) (ma_cons me_int ma_nil)))) (ma_cons me_int ma_nil)))) (ma_cons (me_tup (ma_cons me_str (ma_cons (me_tup (ma_cons me_str ma_nil)) (ma_cons (me_tup (ma_cons me_str ma_nil)) ma_nil)))) ma_nil))))) ma_nil))) (mg_name (i := 1) sc_L_law_great.nd rfl (by first | exact .inl rfl | exact .inr rfl)))
  (mss_cons (ms_asg (me_tup (ma_cons me_str (ma_cons (me_call (ok_L_law_pick T) (hr.mono (by decide)) hgd rfl T.m_L_law_pick T.F_L_law_pick.kp T.b_L_law_pick hx (ma_cons (me_var 0) (ma_cons (me_new (ml_lst (ma_cons me_int (ma_cons me_int (ma_cons me_int (ma_cons me_int (ma_cons me_int ma_nil))))))) ma_nil))) (ma_cons (me_tup (ma_cons me_str ma_nil)) (ma_cons (me_var 1) ma_nil))))) (mg_name (i := 2) sc_L_law_great.nd rfl (by first | exact .inl rfl | exact .inr rfl)))
  (mss_cons (ms_asg (me_new (ml_lst (ma_cons (me_callTy call_tuple_of cm_tup rfl T.z_tuple (by decide +kernel) (ma_cons (me_op or_add om_add (me_call (ok_L_law_laid T) (hr.mono (by decide)) hgd rfl T.m_L_law_laid T.F_L_law_laid.kp T.b_L_law_laid hx (ma_cons (me_tup (ma_cons me_str (ma_cons (me_call (ok_L_law_pick T) (hr.mono (by decide)) hgd rfl T.m_L_law_pick T.F_L_law_pick.kp T.b_L_law_pick hx (ma_cons (me_var 0) (ma_cons (me_new (ml_lst (ma_cons me_int (ma_cons me_int (ma_cons me_int (ma_cons me_int ma_nil)))))) ma_nil))) (ma_cons me_int (ma_cons (me_var 2) ma_nil))))) (ma_cons me_int ma_nil))) (me_new (ml_lst (ma_cons (me_tup (ma_cons me_str ma_nil)) ma_nil)))) ma_nil)) ma_nil))) (mg_name (i := 3) sc_L_law_great.nd rfl (by first | exact .inl rfl | exact .inr rfl)))
  (mss_cons (ms_for (passes_of rfl) rfl (mi_rng1 rfl T.z_range (me_call (ok_L_law_pick T) (hr.mono (by decide)) hgd rfl T.m_L_law_pick T.F_L_law_pick.kp T.b_L_law_pick hx (ma_cons (me_var 0) (ma_cons (me_new (ml_lst (ma_cons me_int (ma_cons me_int (ma_cons me_int (ma_cons me_int ma_nil)))))) ma_nil)))) (mg_name (i := 4) sc_L_law_great.nd rfl (by first | exact .inl rfl | exact .inr rfl)) (mss_cons (ms_asg (me_call (ok_L_law_pick T) (hr.mono (by decide)) hgd rfl T.m_L_law_pick T.F_L_law_pick.kp T.b_L_law_pick hx (ma_cons (me_var 0) (ma_cons (me_new (ml_lst (ma_cons (me_tup (ma_cons me_str ma_nil)) (ma_cons (me_tup (ma_cons me_str ma_nil)) (ma_cons (me_tup (ma_cons me_str ma_nil)) ma_nil))))) ma_nil))) (mg_name (i := 5) sc_L_law_great.nd rfl (by first | exact .inl rfl | exact .inr rfl)))
  (mss_one (ms_expr (me_bm PySem.F.plainAttrs_list PySem.F.slot_list_append PySem.F.type_list_append mt_append bm_append (me_var 3) (ma_cons (me_tup (ma_cons (me_tup (ma_cons me_str (ma_cons (me_var 4) ma_nil))) (ma_cons (me_tup (ma_cons me_str (ma_cons (me_op or_add om_add me_int (me_op op_modN om_mod (me_callTy call_int1 cm_int rfl T.z_int (by decide +kernel) (ma_cons (me_var 4) ma_nil)) me_int)) ma_nil))) (ma_cons (me_var 5) (ma_cons (me_tup (ma_cons me_str ma_nil)) ma_nil))))) ma_nil))))))
  (mss_one (ms_ret (me_tup (ma_cons me_str (ma_cons (me_op op_sub om_sub (me_callB cr_len cm_len rfl T.z_len (by decide +kernel) (ma_cons (me_var 3) ma_nil)) me_int) (ma_cons (me_callTy call_tuple_of cm_tup rfl T.z_tuple (by decide +kernel) (ma_cons (me_var 3) ma_nil)) ma_nil))))))))))) (by decide)
theorem sc_L_law_called : FnScope ["frames", "known", "position", "open_ones", "frame"] ["frames", "known", "position"] (defScope s_L_law_called) := ⟨rfl, rfl, rfl, by decide +kernel, rfl, by decide +kernel, by decide +kernel⟩
set_option maxHeartbeats 4000000 in
theorem ok_L_law_called (T : Tx K mg) : FnG P w K mg base 1 T.a_L_law_called T.d_L_law_called ["frames", "known", "position"] (spM K T.cls m_L_law_called) := FnG.mono (j := 1) (fn_m (N := ["frames", "known", "position", "open_ones", "frame"]) (ps := ["frames", "known", "position"]) T.F_L_law_called sc_L_law_called fun cdv A outer s H E hr hgd =>
    have hx : Passes (L2.CX P w) (cxOf (L2.CX P w) P w K mg base ["frames", "known", "position", "open_ones", "frame"] "_law_called" (defScope s_L_law_called) T.a_L_law_called cdv A outer s H E) E := passes_call (takes_of rfl rfl rfl rfl) fun _ _ _ _ h => h
    have hu := hu_of hr
    have hu64 := hr.units
    by exact (mss_cons (ms_if (mt_cmp (or_in hu) (om_in false) (me_var 2) (me_var 1) rfl) (mss_cons (ms_expr (me_bm PySem.F.plainAttrs_list PySem.F.slot_list_append PySem.F.type_list_append mt_append bm_append (me_ix (ix_u hu) om_ix (me_ix (ix_u hu) om_ix (me_var 0) (me_un un_neg om_neg me_int) (fun _ _ => rfl)) me_int (fun _ _ => rfl)) (ma_cons (me_ix (ix_u hu) om_ix (me_var 1) (me_var 2) (fun _ _ => rfl)) ma_nil)))
  (mss_one (ms_ret me_non))) mss_nil)
  (mss_cons (ms_setLc (i := 3) [("frame", 4)] rfl sc_L_law_called.nd rfl rfl (sw_true rfl rfl rfl (by decide +kernel)) (blkOk_by (N := ["frames", "known", "position", "open_ones", "frame"]) (sc := defScope s_L_law_called) (own := [("frame", 4)]) (by decide +kernel)) (gown_name 4 (by decide)) (mi_seq (me_var 0)) (fun _ _ _ _ _ => pg_name (i := 4) sc_L_law_called.nd rfl (Or.inl rfl)) (fun _ _ _ _ _ => (me_ix (ix_u hu) om_ix (me_var 4) me_int (fun _ _ => rfl))))
  (mss_cons (ms_if (mt_cmp (or_in hu) (om_in false) (me_var 2) (me_var 3) rfl) (mss_one (ms_ret (me_callB (cr_min rfl) cm_minL rfl T.z_min (by decide +kernel) (ma_cons (me_slice (me_var 3) (mo_some (me_bm PySem.F.plainAttrs_list PySem.F.slot_list_index PySem.F.type_list_index mt_index bm_index (me_var 3) (ma_cons (me_var 2) ma_nil))) mo_none) ma_nil)))) mss_nil)
  (mss_cons (ms_expr (me_bm PySem.F.plainAttrs_list PySem.F.slot_list_append PySem.F.type_list_append mt_append bm_append (me_var 0) (ma_cons (me_new (ml_lst (ma_cons (me_var 2) (ma_cons me_int (ma_cons (me_new (ml_lst ma_nil)) (ma_cons (me_new (ml_lst ma_nil)) ma_nil)))))) ma_nil)))
  (mss_one (ms_ret me_non))))))) (by decide)
theorem sc_L_law_closed : FnScope ["frame", "spot", "loop"] ["frame", "spot"] (defScope s_L_law_closed) := ⟨rfl, rfl, rfl, by decide +kernel, rfl, by decide +kernel, by decide +kernel⟩
set_option maxHeartbeats 4000000 in
theorem ok_L_law_closed (T : Tx K mg) : FnG P w K mg base 1 T.a_L_law_closed T.d_L_law_closed ["frame", "spot"] (spM K T.cls m_L_law_closed) := FnG.mono (j := 1) (fn_m (N := ["frame", "spot", "loop"]) (ps := ["frame", "spot"]) T.F_L_law_closed sc_L_law_closed fun cdv A outer s H E hr hgd =>
    have hx : Passes (L2.CX P w) (cxOf (L2.CX P w) P w K mg base ["frame", "spot", "loop"] "_law_closed" (defScope s_L_law_closed) T.a_L_law_closed cdv A outer s H E) E := passes_call (takes_of rfl rfl rfl rfl) fun _ _ _ _ h => h
    have hu := hu_of hr
    have hu64 := hr.units
    by exact (mss_cons (ms_asg (me_ix (ix_u hu) om_ix (me_ix (ix_u hu) om_ix (me_var 0) me_int (fun _ _ => rfl)) (me_un un_neg om_neg me_int) (fun _ _ => rfl)) (mg_name (i := 2) sc_L_law_closed.nd rfl (by first | exact .inl rfl | exact .inr rfl)))
  (mss_cons (ms_asg (me_tup (ma_cons (me_bm0 PySem.F.plainAttrs_list PySem.F.slot_list_pop PySem.F.type_list_pop mt_pop bm_pop (me_ix (ix_u hu) om_ix (me_var 0) me_int (fun _ _ => rfl))) (ma_cons (me_op or_add om_add (me_ix (ix_u hu) om_ix (me_var 2) me_int (fun _ _ => rfl)) me_int) ma_nil))) (mg_tup (pg_tup rfl (mg_cons (mg_sub hu (me_var 2) me_int) (mg_cons (mg_sub hu (me_var 2) me_int) mg_nil)))))
  (mss_one (ms_if (mt_cmp op_lt om_lt (me_ix (ix_u hu) om_ix (me_var 2) me_int (fun _ _ => rfl)) (me_ix (ix_u hu) om_ix (me_var 2) me_int (fun _ _ => rfl)) (nomark _)) (mss_one (ms_asg (me_var 1) (mg_sub hu (me_var 0) me_int))) (mss_one (ms_expr (me_bm PySem.F.plainAttrs_list PySem.F.slot_list_append PySem.F.type_list_append mt_append bm_append (me_ix (ix_u hu) om_ix (me_var 0) me_int (fun _ _ => rfl)) (ma_cons (me_ix (ix_u hu) om_ix (me_bm0 PySem.F.plainAttrs_list PySem.F.slot_list_pop PySem.F.type_list_pop mt_pop bm_pop (me_ix (ix_u hu) om_ix (me_var 0) me_int (fun _ _ => rfl))) me_int (fun _ _ => rfl)) ma_nil))))))))) (by decide)
theorem sc_L_law_opened : FnScope ["frame", "spot", "start", "times"] ["frame", "spot"] (defScope s_L_law_opened) := ⟨rfl, rfl, rfl, by decide +kernel, rfl, by decide +kernel, by decide +kernel⟩
set_option maxHeartbeats 4000000 in
theorem ok_L_law_opened (T : Tx K mg) : FnG P w K mg base 1 T.a_L_law_opened T.d_L_law_opened ["frame", "spot"] (spM K T.cls m_L_law_opened) := FnG.mono (j := 1) (fn_m (N := ["frame", "spot", "start", "times"]) (ps := ["frame", "spot"]) T.F_L_law_opened sc_L_law_opened fun cdv A outer s H E hr hgd =>
    have hx : Passes (L2.CX P w) (cxOf (L2.CX P w) P w K mg base ["frame", "spot", "start", "times"] "_law_opened" (defScope s_L_law_opened) T.a_L_law_opened cdv A outer s H E) E := passes_call (takes_of rfl rfl rfl rfl) fun _ _ _ _ h => h
    have hu := hu_of hr
    have hu64 := hr.units
    by exact (mss_cons (ms_par (i := 2) (j := 3) rfl sc_L_law_opened.nd rfl rfl (by decide) rfl rfl rfl (me_bm0 PySem.F.plainAttrs_list PySem.F.slot_list_pop PySem.F.type_list_pop mt_pop bm_pop (me_ix (ix_u hu) om_ix (me_var 0) me_int (fun _ _ => rfl))) (me_bm0 PySem.F.plainAttrs_list PySem.F.slot_list_pop PySem.F.type_list_pop mt_pop bm_pop (me_ix (ix_u hu) om_ix (me_var 0) me_int (fun _ _ => rfl))))
  (mss_cons (ms_if (mt_cmp op_gt om_gt (me_var 3) me_int (nomark _)) (mss_one (ms_ret me_str)) mss_nil)
  (mss_cons (ms_if (mt_cmp op_lt om_lt (me_var 3) me_int (nomark _)) (mss_cons (ms_expr (me_bm PySem.F.plainAttrs_list PySem.F.slot_list_append PySem.F.type_list_append mt_append bm_append (me_ix (ix_u hu) om_ix (me_var 0) me_int (fun _ _ => rfl)) (ma_cons (me_var 2) ma_nil)))
  (mss_one (ms_asg (me_var 1) (mg_sub hu (me_var 0) me_int)))) (mss_one (ms_expr (me_bm PySem.F.plainAttrs_list PySem.F.slot_list_append PySem.F.type_list_append mt_append bm_append (me_ix (ix_u hu) om_ix (me_var 0) me_int (fun _ _ => rfl)) (ma_cons (me_new (ml_lst (ma_cons (me_var 3) (ma_cons (me_var 2) (ma_cons me_int ma_nil))))) ma_nil)))))
  (mss_one (ms_ret me_non)))))) (by decide)
theorem sc_L_law_operated : FnScope ["word", "one", "two", "told"] ["word", "one", "two"] (defScope s_L_law_operated) := ⟨rfl, rfl, rfl, by decide +kernel, rfl, by decide +kernel, by decide +kernel⟩
set_option maxHeartbeats 4000000 in
theorem ok_L_law_operated (T : Tx K mg) : FnG P w K mg base 1 T.a_L_law_operated T.d_L_law_operated ["word", "one", "two"] (spM K T.cls m_L_law_operated) := FnG.mono (j := 1) (fn_m (N := ["word", "one", "two", "told"]) (ps := ["word", "one", "two"]) T.F_L_law_operated sc_L_law_operated fun cdv A outer s H E hr hgd =>
    have hx : Passes (L2.CX P w) (cxOf (L2.CX P w) P w K mg base ["word", "one", "two", "told"] "_law_operated" (defScope s_L_law_operated) T.a_L_law_operated cdv A outer s H E) E := passes_call (takes_of rfl rfl rfl rfl) fun _ _ _ _ h => h
    have hu := hu_of hr
    have hu64 := hr.units
    by exact (mss_cons (ms_if (mt_w (mt_and (mt_cmp (or_in hu) (om_in false) (me_var 0) (me_tup (ma_cons me_str (ma_cons me_str ma_nil))) rfl) (mt_and1 (mt_cmp (or_eq hu64) om_eq (me_var 2) me_int (nomark _))))) (mss_one (ms_ret me_str)) mss_nil)
  (mss_cons (ms_if (mt_cmp (or_in hu) (om_in false) (me_var 0) (me_tup (ma_cons me_str (ma_cons me_str ma_nil))) rfl) (mss_one (ms_ret (me_if (mt_cmp (or_eq hu64) om_eq (me_var 0) me_str (nomark _)) (me_callTy call_int1 cm_int rfl T.z_int (by decide +kernel) (ma_cons (me_cmp op_lt om_lt (me_var 1) (me_var 2) (nomark _)) ma_nil)) (me_callTy call_int1 cm_int rfl T.z_int (by decide +kernel) (ma_cons (me_cmp (or_eq hu64) om_eq (me_var 1) (me_var 2) (nomark _)) ma_nil))))) mss_nil)
  (mss_cons (ms_if (mt_cmp (or_in hu) (om_in false) (me_var 0) (me_tup (ma_cons me_str (ma_cons me_str ma_nil))) rfl) (mss_one (ms_asg (me_if (mt_cmp (or_eq hu64) om_eq (me_var 0) me_str (nomark _)) (me_op op_fdivG om_fdiv (me_var 1) (me_var 2)) (me_op op_sub om_sub (me_var 1) (me_op or_mul om_mul (me_var 2) (me_op op_fdivG om_fdiv (me_var 1) (me_var 2))))) (mg_name (i := 3) sc_L_law_operated.nd rfl (by first | exact .inl rfl | exact .inr rfl)))) (mss_one (ms_asg (me_if (mt_cmp (or_eq hu64) om_eq (me_var 0) me_str (nomark _)) (me_op or_add om_add (me_var 1) (me_var 2)) (me_if (mt_cmp (or_eq hu64) om_eq (me_var 0) me_str (nomark _)) (me_op op_sub om_sub (me_var 1) (me_var 2)) (me_op or_mul om_mul (me_var 1) (me_var 2)))) (mg_name (i := 3) sc_L_law_operated.nd rfl (by first | exact .inl rfl | exact .inr rfl)))))
  (mss_one (ms_ret (me_if (mt_cmp op_gt om_gt (me_callB call_abs cm_abs rfl T.z_abs (by decide +kernel) (ma_cons (me_var 3) ma_nil)) (me_op op_pow om_pow me_int me_int) (nomark _)) me_str (me_var 3)))))))) (by decide)
theorem sc_L_law_done : FnScope ["frame", "instruction", "word", "stack", "two", "told"] ["frame", "instruction"] (defScope s_L_law_done) := ⟨rfl, rfl, rfl, by decide +kernel, rfl, by decide +kernel, by decide +kernel⟩
set_option maxHeartbeats 4000000 in
theorem ok_L_law_done (T : Tx K mg) : FnG P w K mg base 2 T.a_L_law_done T.d_L_law_done ["frame", "instruction"] (spM K T.cls m_L_law_done) := FnG.mono (j := 2) (fn_m (N := ["frame", "instruction", "word", "stack", "two", "told"]) (ps := ["frame", "instruction"]) T.F_L_law_done sc_L_law_done fun cdv A outer s H E hr hgd =>
    have hx : Passes (L2.CX P w) (cxOf (L2.CX P w) P w K mg base ["frame", "instruction", "word", "stack", "two", "told"] "_law_done" (defScope s_L_law_done) T.a_L_law_done cdv A outer s H E) E := passes_call (takes_of rfl rfl rfl rfl) fun _ _ _ _ h => h
    have hu := hu_of hr
    have hu64 := hr.units
    by exact (mss_cons (ms_par (i := 2) (j := 3) rfl sc_L_law_done.nd rfl rfl (by decide) rfl rfl rfl (me_ix (ix_u hu) om_ix (me_var 1) me_int (fun _ _ => rfl)) (me_ix (ix_u hu) om_ix (me_var 0) me_int (fun _ _ => rfl)))
  (mss_cons (ms_if (mt_cmp (or_in hu) (om_in false) (me_var 2) (me_tup (ma_cons me_str (ma_cons me_str (ma_cons me_str ma_nil)))) rfl) (mss_one (ms_expr (me_bm PySem.F.plainAttrs_list PySem.F.slot_list_append PySem.F.type_list_append mt_append bm_append (me_var 3) (ma_cons (me_if (mt_cmp (or_eq hu64) om_eq (me_var 2) me_str (nomark _)) (me_ix (ix_u hu) om_ix (me_var 1) me_int (fun _ _ => rfl)) (me_ix (ix_u hu) om_ix (me_ix (ix_u hu) om_ix (me_ix (ix_u hu) om_ix (me_var 0) me_int (fun _ _ => rfl)) (me_un un_neg om_neg me_int) (fun _ _ => rfl)) (me_if (mt_cmp (or_eq hu64) om_eq (me_var 2) me_str (nomark _)) me_int me_int) (fun _ _ => rfl))) ma_nil)))) (mss_one (ms_if (mt_cmp (or_eq hu64) om_eq (me_var 2) me_str (nomark _)) (mss_one (ms_asg (me_if (mt_cmp (or_eq hu64) om_eq (me_bm0 PySem.F.plainAttrs_list PySem.F.slot_list_pop PySem.F.type_list_pop mt_pop bm_pop (me_var 3)) me_int (nomark _)) (me_ix (ix_u hu) om_ix (me_var 1) me_int (fun _ _ => rfl)) (me_ix (ix_u hu) om_ix (me_var 0) me_int (fun _ _ => rfl))) (mg_sub hu (me_var 0) me_int))) (mss_one (ms_if (mt_cmp (or_eq hu64) om_eq (me_var 2) me_str (nomark _)) (mss_one (ms_asg (me_ix (ix_u hu) om_ix (me_var 1) me_int (fun _ _ => rfl)) (mg_sub hu (me_var 0) me_int))) (mss_one (ms_if (mt_cmp (or_eq hu64) om_eq (me_var 2) me_str (nomark _)) (mss_one (ms_ret (me_call (ok_L_law_opened T) (hr.mono (by decide)) hgd rfl T.m_L_law_opened T.F_L_law_opened.kp T.b_L_law_opened hx (ma_cons (me_var 0) (ma_cons (me_ix (ix_u hu) om_ix (me_var 1) me_int (fun _ _ => rfl)) ma_nil))))) (mss_one (ms_if (mt_cmp (or_eq hu64) om_eq (me_var 2) me_str (nomark _)) (mss_one (ms_expr (me_call (ok_L_law_closed T) (hr.mono (by decide)) hgd rfl T.m_L_law_closed T.F_L_law_closed.kp T.b_L_law_closed hx (ma_cons (me_var 0) (ma_cons (me_ix (ix_u hu) om_ix (me_var 1) me_int (fun _ _ => rfl)) ma_nil))))) (mss_one (ms_if (mt_cmp (or_eq hu64) om_eq (me_var 2) me_str (nomark _)) (mss_one (ms_ret (me_ix (ix_u hu) om_ix (me_var 1) me_int (fun _ _ => rfl)))) (mss_cons (ms_asg (me_bm0 PySem.F.plainAttrs_list PySem.F.slot_list_pop PySem.F.type_list_pop mt_pop bm_pop (me_var 3)) (mg_name (i := 4) sc_L_law_done.nd rfl (by first | exact .inl rfl | exact .inr rfl)))
  (mss_cons (ms_asg (me_call (ok_L_law_operated T) (hr.mono (by decide)) hgd rfl T.m_L_law_operated T.F_L_law_operated.kp T.b_L_law_operated hx (ma_cons (me_var 2) (ma_cons (me_bm0 PySem.F.plainAttrs_list PySem.F.slot_list_pop PySem.F.type_list_pop mt_pop bm_pop (me_var 3)) (ma_cons (me_var 4) ma_nil)))) (mg_name (i := 5) sc_L_law_done.nd rfl (by first | exact .inl rfl | exact .inr rfl)))
  (mss_cons (ms_if (mt_b (me_isB rfl T.z_isinstance rfl T.z_str (by decide +kernel) (me_var 5))) (mss_one (ms_ret (me_var 5))) mss_nil)
  (mss_one (ms_expr (me_bm PySem.F.plainAttrs_list PySem.F.slot_list_append PySem.F.type_list_append mt_append bm_append (me_var 3) (ma_cons (me_var 5) ma_nil))))))))))))))))))
  (mss_one (ms_ret me_non))))) (by decide)
theorem sc_L_law_run : FnScope ["code", "most", "frames", "known", "step", "frame", "instruction", "least", "word"] ["code", "most"] (defScope s_L_law_run) := ⟨rfl, rfl, rfl, by decide +kernel, rfl, by decide +kernel, by decide +kernel⟩
set_option maxHeartbeats 4000000 in
theorem ok_L_law_run (T : Tx K mg) : FnG P w K mg base 3 T.a_L_law_run T.d_L_law_run ["code", "most"] (spM K T.cls m_L_law_run) := FnG.mono (j := 3) (fn_m (N := ["code", "most", "frames", "known", "step", "frame", "instruction", "least", "word"]) (ps := ["code", "most"]) T.F_L_law_run sc_L_law_run fun cdv A outer s H E hr hgd =>
    have hx : Passes (L2.CX P w) (cxOf (L2.CX P w) P w K mg base ["code", "most", "frames", "known", "step", "frame", "instruction", "least", "word"] "_law_run" (defScope s_L_law_run) T.a_L_law_run cdv A outer s H E) E := passes_call (takes_of rfl rfl rfl rfl) fun _ _ _ _ h => h
    have hu := hu_of hr
    have hu64 := hr.units
    by exact (mss_cons (ms_par (i := 2) (j := 3) rfl sc_L_law_run.nd rfl rfl (by decide) rfl rfl rfl (me_new (ml_lst (ma_cons (me_new (ml_lst (ma_cons (me_ix (ix_u hu) om_ix (me_var 0) me_int (fun _ _ => rfl)) (ma_cons me_int (ma_cons (me_new (ml_lst ma_nil)) (ma_cons (me_new (ml_lst ma_nil)) ma_nil)))))) ma_nil))) me_dnew)
  (mss_cons (ms_for (passes_of rfl) rfl (mi_rng2 rfl T.z_range me_int (me_op or_add om_add (me_var 1) me_int)) (mg_name (i := 4) sc_L_law_run.nd rfl (by first | exact .inl rfl | exact .inr rfl)) (mss_cons (ms_asg (me_ix (ix_u hu) om_ix (me_var 2) (me_un un_neg om_neg me_int) (fun _ _ => rfl)) (mg_name (i := 5) sc_L_law_run.nd rfl (by first | exact .inl rfl | exact .inr rfl)))
  (mss_cons (ms_asg (me_ix (ix_u hu) om_ix (me_ix (ix_u hu) om_ix (me_ix (ix_u hu) om_ix (me_var 0) me_int (fun _ _ => rfl)) (me_ix (ix_u hu) om_ix (me_var 5) me_int (fun _ _ => rfl)) (fun _ _ => rfl)) (me_ix (ix_u hu) om_ix (me_var 5) me_int (fun _ _ => rfl)) (fun _ _ => rfl)) (mg_name (i := 6) sc_L_law_run.nd rfl (by first | exact .inl rfl | exact .inr rfl)))
  (mss_cons (ms_asg (me_op or_add om_add (me_ix (ix_u hu) om_ix (me_var 5) me_int (fun _ _ => rfl)) me_int) (mg_sub hu (me_var 5) me_int))
  (mss_one (ms_if (mt_cmp (or_eq hu64) om_eq (me_ix (ix_u hu) om_ix (me_var 6) me_int (fun _ _ => rfl)) me_str (nomark _)) (mss_cons (ms_asg (me_bm0 PySem.F.plainAttrs_list PySem.F.slot_list_pop PySem.F.type_list_pop mt_pop bm_pop (me_ix (ix_u hu) om_ix (me_var 5) me_int (fun _ _ => rfl))) (mg_sub hu (me_var 3) (me_ix (ix_u hu) om_ix (me_var 5) me_int (fun _ _ => rfl))))
  (mss_cons (ms_expr (me_bm0 PySem.F.plainAttrs_list PySem.F.slot_list_pop PySem.F.type_list_pop mt_pop bm_pop (me_var 2)))
  (mss_cons (ms_if (mt_cmp (or_eq hu64) om_eq (me_var 2) (me_new (ml_lst ma_nil)) (nomark _)) (mss_one (ms_ret (me_tup (ma_cons me_str (ma_cons (me_ix (ix_u hu) om_ix (me_var 3) (me_ix (ix_u hu) om_ix (me_var 5) me_int (fun _ _ => rfl)) (fun _ _ => rfl)) (ma_cons (me_var 4) ma_nil)))))) mss_nil)
  (mss_one (ms_expr (me_bm PySem.F.plainAttrs_list PySem.F.slot_list_append PySem.F.type_list_append mt_append bm_append (me_ix (ix_u hu) om_ix (me_ix (ix_u hu) om_ix (me_var 2) (me_un un_neg om_neg me_int) (fun _ _ => rfl)) me_int (fun _ _ => rfl)) (ma_cons (me_ix (ix_u hu) om_ix (me_var 3) (me_ix (ix_u hu) om_ix (me_var 5) me_int (fun _ _ => rfl)) (fun _ _ => rfl)) ma_nil))))))) (mss_one (ms_if (mt_cmp (or_eq hu64) om_eq (me_ix (ix_u hu) om_ix (me_var 6) me_int (fun _ _ => rfl)) me_str (nomark _)) (mss_cons (ms_asg (me_call (ok_L_law_called T) (hr.mono (by decide)) hgd rfl T.m_L_law_called T.F_L_law_called.kp T.b_L_law_called hx (ma_cons (me_var 2) (ma_cons (me_var 3) (ma_cons (me_ix (ix_u hu) om_ix (me_var 6) me_int (fun _ _ => rfl)) ma_nil)))) (mg_name (i := 7) sc_L_law_run.nd rfl (by first | exact .inl rfl | exact .inr rfl)))
  (mss_one (ms_if (mt_cmp or_isNot om_isNot (me_var 7) me_non (nomark _)) (mss_one (ms_ret (me_tup (ma_cons me_str (ma_cons me_str (ma_cons (me_var 7) (ma_cons (me_var 4) ma_nil))))))) mss_nil))) (mss_cons (ms_asg (me_call (ok_L_law_done T) (hr.mono (by decide)) hgd rfl T.m_L_law_done T.F_L_law_done.kp T.b_L_law_done hx (ma_cons (me_var 5) (ma_cons (me_var 6) ma_nil))) (mg_name (i := 8) sc_L_law_run.nd rfl (by first | exact .inl rfl | exact .inr rfl)))
  (mss_one (ms_if (mt_cmp or_isNot om_isNot (me_var 8) me_non (nomark _)) (mss_one (ms_ret (me_tup (ma_cons me_str (ma_cons (me_var 8) (ma_cons (me_ix (ix_u hu) om_ix (me_var 5) me_int (fun _ _ => rfl)) (ma_cons (me_var 4) ma_nil))))))) mss_nil)))))))))))
  (mss_one (ms_ret (me_tup (ma_cons me_str (ma_cons (me_var 1) ma_nil)))))))) (by decide)
theorem sc_is_integer : FnScope ["value"] ["value"] (defScope s_is_integer) := ⟨rfl, rfl, rfl, by decide +kernel, rfl, by decide +kernel, by decide +kernel⟩
set_option maxHeartbeats 4000000 in
theorem ok_is_integer (T : Tx K mg) : FnG P w K mg base 1 T.a_is_integer T.d_is_integer ["value"] (spM K T.cls m_is_integer) := FnG.mono (j := 1) (fn_m (N := ["value"]) (ps := ["value"]) T.F_is_integer sc_is_integer fun cdv A outer s H E hr hgd =>
    have hx : Passes (L2.CX P w) (cxOf (L2.CX P w) P w K mg base ["value"] "is_integer" (defScope s_is_integer) T.a_is_integer cdv A outer s H E) E := passes_call (takes_of rfl rfl rfl rfl) fun _ _ _ _ h => h
    have hu := hu_of hr
    have hu64 := hr.units
    by exact (mss_one (ms_ret (me_and (me_isB rfl T.z_isinstance rfl T.z_int (by decide +kernel) (me_var 0)) (me_one (me_not (me_isB rfl T.z_isinstance rfl T.z_bool (by decide +kernel) (me_var 0)))))))) (by decide)
end PP

/-! Printed by gen.py: each def does what its function does. -/
namespace PP
open PySem L2 MM
variable {P : Program} {w : World} {K : PySem.W.Frag} {mg : Str → Option Value} {base : Heap}
theorem sc_is_count : FnScope ["value"] ["value"] (defScope s_is_count) := ⟨rfl, rfl, rfl, by decide +kernel, rfl, by decide +kernel, by decide +kernel⟩
set_option maxHeartbeats 4000000 in
theorem ok_is_count (T : Tx K mg) : FnG P w K mg base 2 T.a_is_count T.d_is_count ["value"] (spM K T.cls m_is_count) := FnG.mono (j := 2) (fn_m (N := ["value"]) (ps := ["value"]) T.F_is_count sc_is_count fun cdv A outer s H E hr hgd =>
    have hx : Passes (L2.CX P w) (cxOf (L2.CX P w) P w K mg base ["value"] "is_count" (defScope s_is_count) T.a_is_count cdv A outer s H E) E := passes_call (takes_of rfl rfl rfl rfl) fun _ _ _ _ h => h
    have hu := hu_of hr
    have hu64 := hr.units
    by exact (mss_one (ms_ret (me_and (me_call (ok_is_integer T) (hr.mono (by decide)) hgd rfl T.m_is_integer T.F_is_integer.kp T.b_is_integer hx (ma_cons (me_var 0) ma_nil)) (me_one (me_cmp op_ge om_ge (me_var 0) me_int (nomark _))))))) (by decide)
theorem sc_is_instruction : FnScope ["value", "spots", "routines", "word", "part"] ["value", "spots", "routines"] (defScope s_is_instruction) := ⟨rfl, rfl, rfl, by decide +kernel, rfl, by decide +kernel, by decide +kernel⟩
set_option maxHeartbeats 4000000 in
theorem ok_is_instruction (T : Tx K mg) : FnG P w K mg base 3 T.a_is_instruction T.d_is_instruction ["value", "spots", "routines"] (spM K T.cls m_is_instruction) := FnG.mono (j := 3) (fn_m (N := ["value", "spots", "routines", "word", "part"]) (ps := ["value", "spots", "routines"]) T.F_is_instruction sc_is_instruction fun cdv A outer s H E hr hgd =>
    have hx : Passes (L2.CX P w) (cxOf (L2.CX P w) P w K mg base ["value", "spots", "routines", "word", "part"] "is_instruction" (defScope s_is_instruction) T.a_is_instruction cdv A outer s H E) E := passes_call (takes_of rfl rfl rfl rfl) fun _ _ _ _ h => h
    have hu := hu_of hr
    have hu64 := hr.units
    by exact (mss_cons (ms_if (mt_w (mt_or (mt_not (mt_b (me_isB rfl T.z_isinstance rfl T.z_tuple (by decide +kernel) (me_var 0)))) (mt_or (mt_cmp (or_eq hu64) om_eq (me_callB cr_len cm_len rfl T.z_len (by decide +kernel) (ma_cons (me_var 0) ma_nil)) me_int (nomark _)) (mt_or1 (mt_not (mt_b (me_isB rfl T.z_isinstance rfl T.z_str (by decide +kernel) (me_ix (ix_u hu) om_ix (me_var 0) me_int (fun _ _ => rfl))))))))) (mss_one (ms_ret me_bl)) mss_nil)
  (mss_cons (ms_asg (me_ix (ix_u hu) om_ix (me_var 0) me_int (fun _ _ => rfl)) (mg_name (i := 3) sc_is_instruction.nd rfl (by first | exact .inl rfl | exact .inr rfl)))
  (mss_cons (ms_if (mt_cmp (or_in hu) (om_in false) (me_var 3) (me_glob (v := .ref T.a_LONE_WORDS) rfl T.m_LONE_WORDS rfl fun α H => T.v_LONE_WORDS α H) rfl) (mss_one (ms_ret (me_cmp (or_eq hu64) om_eq (me_callB cr_len cm_len rfl T.z_len (by decide +kernel) (ma_cons (me_var 0) ma_nil)) me_int (nomark _)))) mss_nil)
  (mss_cons (ms_if (mt_cmp (or_ne hu64) om_ne (me_callB cr_len cm_len rfl T.z_len (by decide +kernel) (ma_cons (me_var 0) ma_nil)) me_int (nomark _)) (mss_one (ms_ret me_bl)) mss_nil)
  (mss_cons (ms_asg (me_ix (ix_u hu) om_ix (me_var 0) me_int (fun _ _ => rfl)) (mg_name (i := 4) sc_is_instruction.nd rfl (by first | exact .inl rfl | exact .inr rfl)))
  (mss_cons (ms_if (mt_cmp (or_eq hu64) om_eq (me_var 3) me_str (nomark _)) (mss_one (ms_ret (me_and (me_call (ok_is_integer T) (hr.mono (by decide)) hgd rfl T.m_is_integer T.F_is_integer.kp T.b_is_integer hx (ma_cons (me_var 4) ma_nil)) (me_one (me_cmp op_le om_le (me_callB call_abs cm_abs rfl T.z_abs (by decide +kernel) (ma_cons (me_var 4) ma_nil)) (me_glob (v := .int (1000000000000)) rfl T.m_MOST_NUMBER ⟨_, rfl⟩ fun _ _ => .int _) (nomark _)))))) mss_nil)
  (mss_cons (ms_if (mt_cmp (or_eq hu64) om_eq (me_var 3) me_str (nomark _)) (mss_one (ms_ret (me_and (me_call (ok_is_count T) (hr.mono (by decide)) hgd rfl T.m_is_count T.F_is_count.kp T.b_is_count hx (ma_cons (me_var 4) ma_nil)) (me_one (me_cmp op_lt om_lt (me_var 4) (me_var 2) (nomark _)))))) mss_nil)
  (mss_cons (ms_if (mt_cmp (or_eq hu64) om_eq (me_var 3) me_str (nomark _)) (mss_one (ms_ret (me_and (me_isB rfl T.z_isinstance rfl T.z_str (by decide +kernel) (me_var 4)) (me_one (me_cmp (or_in hu) (om_in false) (me_var 4) (me_glob (v := .ref T.a_FAULT_WORDS) rfl T.m_FAULT_WORDS rfl fun α H => T.v_FAULT_WORDS α H) rfl))))) mss_nil)
  (mss_one (ms_ret (me_and (me_cmp (or_in hu) (om_in false) (me_var 3) (me_glob (v := .ref T.a_SPOT_WORDS) rfl T.m_SPOT_WORDS rfl fun α H => T.v_SPOT_WORDS α H) rfl) (me_and (me_call (ok_is_count T) (hr.mono (by decide)) hgd rfl T.m_is_count T.F_is_count.kp T.b_is_count hx (ma_cons (me_var 4) ma_nil)) (me_one (me_cmp op_lt om_lt (me_var 4) (me_var 1) (nomark _)))))))))))))))) (by decide)
theorem sc_is_routine_form : FnScope ["value", "routines", "one"] ["value", "routines"] (defScope s_is_routine_form) := ⟨rfl, rfl, rfl, by decide +kernel, rfl, by decide +kernel, by decide +kernel⟩
set_option maxHeartbeats 4000000 in
theorem ok_is_routine_form (T : Tx K mg) : FnG P w K mg base 4 T.a_is_routine_form T.d_is_routine_form ["value", "routines"] (spM K T.cls m_is_routine_form) := FnG.mono (j := 4) (fn_m (N := ["value", "routines", "one"]) (ps := ["value", "routines"]) T.F_is_routine_form sc_is_routine_form fun cdv A outer s H E hr hgd =>
    have hx : Passes (L2.CX P w) (cxOf (L2.CX P w) P w K mg base ["value", "routines", "one"] "is_routine_form" (defScope s_is_routine_form) T.a_is_routine_form cdv A outer s H E) E := passes_call (takes_of rfl rfl rfl rfl) fun _ _ _ _ h => h
    have hu := hu_of hr
    have hu64 := hr.units
    by exact (mss_cons (ms_if (mt_w (mt_or (mt_not (mt_b (me_isB rfl T.z_isinstance rfl T.z_tuple (by decide +kernel) (me_var 0)))) (mt_or1 (mt_not (mt_chain op_le om_le op_le om_le me_int (me_callB cr_len cm_len rfl T.z_len (by decide +kernel) (ma_cons (me_var 0) ma_nil)) (me_glob (v := .int (1000)) rfl T.m_MOST_INSTRUCTIONS ⟨_, rfl⟩ fun _ _ => .int _)))))) (mss_one (ms_ret me_bl)) mss_nil)
  (mss_one (ms_ret (me_callBL (cr_all rfl) cm_all rfl T.z_all (by decide +kernel) (ml_lc [("one", 2)] rfl sc_is_routine_form.nd (blkOk_by (N := ["value", "routines", "one"]) (sc := defScope s_is_routine_form) (own := [("one", 2)]) (by decide +kernel)) (gown_name 2 (by decide)) (mi_seq (me_var 0)) (fun _ _ _ _ _ => pg_name (i := 2) sc_is_routine_form.nd rfl (Or.inl rfl)) (fun _ _ _ _ _ => (me_call (ok_is_instruction T) (hr.mono (by decide)) hgd rfl T.m_is_instruction T.F_is_instruction.kp T.b_is_instruction passL (ma_cons (me_var 2) (ma_cons (me_callB cr_len cm_len rfl T.z_len (by decide +kernel) (ma_cons (me_var 0) ma_nil)) (ma_cons (me_var 1) ma_nil))))))))))) (by decide)
theorem sc_stands_behind : FnScope ["instruction", "at", "height", "loops", "word", "late"] ["instruction", "at", "height", "loops"] (defScope s_stands_behind) := ⟨rfl, rfl, rfl, by decide +kernel, rfl, by decide +kernel, by decide +kernel⟩
set_option maxHeartbeats 4000000 in
theorem ok_stands_behind (T : Tx K mg) : FnG P w K mg base 1 T.a_stands_behind T.d_stands_behind ["instruction", "at", "height", "loops"] (spM K T.cls m_stands_behind) := FnG.mono (j := 1) (fn_m (N := ["instruction", "at", "height", "loops", "word", "late"]) (ps := ["instruction", "at", "height", "loops"]) T.F_stands_behind sc_stands_behind fun cdv A outer s H E hr hgd =>
    have hx : Passes (L2.CX P w) (cxOf (L2.CX P w) P w K mg base ["instruction", "at", "height", "loops", "word", "late"] "stands_behind" (defScope s_stands_behind) T.a_stands_behind cdv A outer s H E) E := passes_call (takes_of rfl rfl rfl rfl) fun _ _ _ _ h => h
    have hu := hu_of hr
    have hu64 := hr.units
    by exact (mss_cons (ms_asg (me_ix (ix_u hu) om_ix (me_var 0) me_int (fun _ _ => rfl)) (mg_name (i := 4) sc_stands_behind.nd rfl (by first | exact .inl rfl | exact .inr rfl)))
  (mss_cons (ms_if (mt_cmp (or_in hu) (om_in false) (me_var 4) (me_glob (v := .ref T.a_PUTTING) rfl T.m_PUTTING rfl fun α H => T.v_PUTTING α H) rfl) (mss_one (ms_ret (me_if (mt_w (mt_and (mt_cmp (or_in hu) (om_in false) (me_var 4) (me_tup (ma_cons me_str (ma_cons me_str ma_nil))) rfl) (mt_and1 (mt_cmp (or_eq hu64) om_eq (me_var 3) me_int (nomark _))))) me_non (me_new (ml_lst (ma_cons (me_tup (ma_cons (me_op or_add om_add (me_var 1) me_int) (ma_cons (me_tup (ma_cons (me_op or_add om_add (me_var 2) me_int) (ma_cons (me_var 3) ma_nil))) ma_nil))) ma_nil)))))) mss_nil)
  (mss_cons (ms_if (mt_cmp (or_in hu) (om_in false) (me_var 4) (me_glob (v := .ref T.a_OPERATIONS) rfl T.m_OPERATIONS rfl fun α H => T.v_OPERATIONS α H) rfl) (mss_one (ms_ret (me_if (mt_cmp op_gt om_gt (me_var 2) me_int (nomark _)) (me_new (ml_lst (ma_cons (me_tup (ma_cons (me_op or_add om_add (me_var 1) me_int) (ma_cons (me_tup (ma_cons (me_op op_sub om_sub (me_var 2) me_int) (ma_cons (me_var 3) ma_nil))) ma_nil))) ma_nil))) me_non))) mss_nil)
  (mss_cons (ms_if (mt_cmp (or_eq hu64) om_eq (me_var 4) me_str (nomark _)) (mss_one (ms_ret (me_new (ml_lst (ma_cons (me_tup (ma_cons (me_ix (ix_u hu) om_ix (me_var 0) me_int (fun _ _ => rfl)) (ma_cons (me_tup (ma_cons (me_var 2) (ma_cons (me_var 3) ma_nil))) ma_nil))) ma_nil))))) mss_nil)
  (mss_cons (ms_if (mt_cmp (or_eq hu64) om_eq (me_var 4) me_str (nomark _)) (mss_cons (ms_asg (me_tup (ma_cons (me_op op_sub om_sub (me_var 2) me_int) (ma_cons (me_var 3) ma_nil))) (mg_name (i := 5) sc_stands_behind.nd rfl (by first | exact .inl rfl | exact .inr rfl)))
  (mss_one (ms_ret (me_if (mt_cmp op_gt om_gt (me_var 2) me_int (nomark _)) (me_new (ml_lst (ma_cons (me_tup (ma_cons (me_op or_add om_add (me_var 1) me_int) (ma_cons (me_var 5) ma_nil))) (ma_cons (me_tup (ma_cons (me_ix (ix_u hu) om_ix (me_var 0) me_int (fun _ _ => rfl)) (ma_cons (me_var 5) ma_nil))) ma_nil)))) me_non)))) mss_nil)
  (mss_cons (ms_if (mt_cmp (or_eq hu64) om_eq (me_var 4) me_str (nomark _)) (mss_one (ms_ret (me_if (mt_cmp op_gt om_gt (me_var 2) me_int (nomark _)) (me_new (ml_lst (ma_cons (me_tup (ma_cons (me_op or_add om_add (me_var 1) me_int) (ma_cons (me_tup (ma_cons (me_op op_sub om_sub (me_var 2) me_int) (ma_cons (me_op or_add om_add (me_var 3) me_int) ma_nil))) ma_nil))) (ma_cons (me_tup (ma_cons (me_ix (ix_u hu) om_ix (me_var 0) me_int (fun _ _ => rfl)) (ma_cons (me_tup (ma_cons (me_op op_sub om_sub (me_var 2) me_int) (ma_cons (me_var 3) ma_nil))) ma_nil))) ma_nil)))) me_non))) mss_nil)
  (mss_cons (ms_if (mt_cmp (or_eq hu64) om_eq (me_var 4) me_str (nomark _)) (mss_cons (ms_if (mt_w (mt_or (mt_cmp (or_eq hu64) om_eq (me_var 2) me_int (nomark _)) (mt_or1 (mt_cmp (or_eq hu64) om_eq (me_var 3) me_int (nomark _))))) (mss_one (ms_ret me_non)) mss_nil)
  (mss_one (ms_ret (me_new (ml_lst (ma_cons (me_tup (ma_cons (me_op or_add om_add (me_var 1) me_int) (ma_cons (me_tup (ma_cons (me_var 2) (ma_cons (me_op op_sub om_sub (me_var 3) me_int) ma_nil))) ma_nil))) (ma_cons (me_tup (ma_cons (me_ix (ix_u hu) om_ix (me_var 0) me_int (fun _ _ => rfl)) (ma_cons (me_tup (ma_cons (me_op op_sub om_sub (me_var 2) me_int) (ma_cons (me_var 3) ma_nil))) ma_nil))) ma_nil))))))) mss_nil)
  (mss_one (ms_ret (me_if (mt_w (mt_and (mt_cmp (or_eq hu64) om_eq (me_var 4) me_str (nomark _)) (mt_and1 (mt_cmp (or_ne hu64) om_ne (me_tup (ma_cons (me_var 2) (ma_cons (me_var 3) ma_nil))) (me_tup (ma_cons me_int (ma_cons me_int ma_nil))) (nomark _))))) me_non (me_new (ml_lst ma_nil))))))))))))) (by decide)
theorem sc_stands_of : FnScope ["routine", "found", "waiting", "at", "stand", "further"] ["routine"] (defScope s_stands_of) := ⟨rfl, rfl, rfl, by decide +kernel, rfl, by decide +kernel, by decide +kernel⟩
set_option maxHeartbeats 4000000 in
theorem ok_stands_of (T : Tx K mg) : FnG P w K mg base 2 T.a_stands_of T.d_stands_of ["routine"] (spM K T.cls m_stands_of) := FnG.mono (j := 2) (fn_m (N := ["routine", "found", "waiting", "at", "stand", "further"]) (ps := ["routine"]) T.F_stands_of sc_stands_of fun cdv A outer s H E hr hgd =>
    have hx : Passes (L2.CX P w) (cxOf (L2.CX P w) P w K mg base ["routine", "found", "waiting", "at", "stand", "further"] "stands_of" (defScope s_stands_of) T.a_stands_of cdv A outer s H E) E := passes_call (takes_of rfl rfl rfl rfl) fun _ _ _ _ h => h
    have hu := hu_of hr
    have hu64 := hr.units
    by exact (mss_cons (ms_par (i := 1) (j := 2) rfl sc_stands_of.nd rfl rfl (by decide) rfl rfl rfl (me_op or_mul om_mul (me_new (ml_lst (ma_cons me_non ma_nil))) (me_callB cr_len cm_len rfl T.z_len (by decide +kernel) (ma_cons (me_var 0) ma_nil))) (me_new (ml_lst (ma_cons (me_tup (ma_cons me_int (ma_cons (me_tup (ma_cons me_int (ma_cons me_int ma_nil))) ma_nil))) ma_nil))))
  (mss_cons (ms_while WN (passes_of rfl) (mt_cmp (or_ne hu64) om_ne (me_var 2) (me_new (ml_lst ma_nil)) (nomark _)) (mss_cons (ms_asg (me_bm0 PySem.F.plainAttrs_list PySem.F.slot_list_pop PySem.F.type_list_pop mt_pop bm_pop (me_var 2)) (mg_tup (pg_tup rfl (mg_cons (mg_name (i := 3) sc_stands_of.nd rfl (by first | exact .inl rfl | exact .inr rfl)) (mg_cons (mg_name (i := 4) sc_stands_of.nd rfl (by first | exact .inl rfl | exact .inr rfl)) mg_nil)))))
  (mss_cons (ms_if (mt_w (mt_or (mt_cmp (or_eq hu64) om_eq (me_var 3) (me_callB cr_len cm_len rfl T.z_len (by decide +kernel) (ma_cons (me_var 0) ma_nil)) (nomark _)) (mt_or1 (mt_w (mt_and (mt_cmp or_isNot om_isNot (me_ix (ix_u hu) om_ix (me_var 1) (me_var 3) (fun _ _ => rfl)) me_non (nomark _)) (mt_and1 (mt_cmp (or_ne hu64) om_ne (me_ix (ix_u hu) om_ix (me_var 1) (me_var 3) (fun _ _ => rfl)) (me_var 4) (nomark _)))))))) (mss_one (ms_ret me_non)) mss_nil)
  (mss_one (ms_if (mt_cmp or_is om_is (me_ix (ix_u hu) om_ix (me_var 1) (me_var 3) (fun _ _ => rfl)) me_non (nomark _)) (mss_cons (ms_asg (me_var 4) (mg_sub hu (me_var 1) (me_var 3)))
  (mss_cons (ms_asg (me_call (ok_stands_behind T) (hr.mono (by decide)) hgd rfl T.m_stands_behind T.F_stands_behind.kp T.b_stands_behind hx (ma_cons (me_ix (ix_u hu) om_ix (me_var 0) (me_var 3) (fun _ _ => rfl)) (ma_cons (me_var 3) (ma_cons (me_ix (ix_u hu) om_ix (me_var 4) me_int (fun _ _ => rfl)) (ma_cons (me_ix (ix_u hu) om_ix (me_var 4) me_int (fun _ _ => rfl)) ma_nil))))) (mg_name (i := 5) sc_stands_of.nd rfl (by first | exact .inl rfl | exact .inr rfl)))
  (mss_cons (ms_if (mt_cmp or_is om_is (me_var 5) me_non (nomark _)) (mss_one (ms_ret me_non)) mss_nil)
  (mss_one (ms_expr (me_bm PySem.F.plainAttrs_list PySem.F.slot_list_extend PySem.F.type_list_extend mt_extend bm_extend (me_var 2) (ma_cons (me_var 5) ma_nil))))))) mss_nil)))))
  (mss_one (ms_ret (me_var 1)))))) (by decide)
theorem sc_is_code_value : FnScope ["value", "start", "routines", "routine"] ["value"] (defScope s_is_code_value) := ⟨rfl, rfl, rfl, by decide +kernel, rfl, by decide +kernel, by decide +kernel⟩
set_option maxHeartbeats 4000000 in
theorem ok_is_code_value (T : Tx K mg) : FnG P w K mg base 5 T.a_is_code_value T.d_is_code_value ["value"] (spM K T.cls m_is_code_value) := FnG.mono (j := 5) (fn_m (N := ["value", "start", "routines", "routine"]) (ps := ["value"]) T.F_is_code_value sc_is_code_value fun cdv A outer s H E hr hgd =>
    have hx : Passes (L2.CX P w) (cxOf (L2.CX P w) P w K mg base ["value", "start", "routines", "routine"] "is_code_value" (defScope s_is_code_value) T.a_is_code_value cdv A outer s H E) E := passes_call (takes_of rfl rfl rfl rfl) fun _ _ _ _ h => h
    have hu := hu_of hr
    have hu64 := hr.units
    by exact (mss_cons (ms_if (mt_w (mt_or (mt_not (mt_b (me_isB rfl T.z_isinstance rfl T.z_tuple (by decide +kernel) (me_var 0)))) (mt_or (mt_cmp (or_ne hu64) om_ne (me_callB cr_len cm_len rfl T.z_len (by decide +kernel) (ma_cons (me_var 0) ma_nil)) me_int (nomark _)) (mt_or (mt_not (mt_b (me_isB rfl T.z_isinstance rfl T.z_str (by decide +kernel) (me_ix (ix_u hu) om_ix (me_var 0) me_int (fun _ _ => rfl))))) (mt_or1 (mt_cmp (or_ne hu64) om_ne (me_ix (ix_u hu) om_ix (me_var 0) me_int (fun _ _ => rfl)) (me_glob (v := .str "code") rfl T.m_CODE ⟨_, rfl⟩ fun _ _ => .str _) (nomark _))))))) (mss_one (ms_ret me_bl)) mss_nil)
  (mss_cons (ms_asg (me_tup (ma_cons (me_ix (ix_u hu) om_ix (me_var 0) me_int (fun _ _ => rfl)) (ma_cons (me_ix (ix_u hu) om_ix (me_var 0) me_int (fun _ _ => rfl)) ma_nil))) (mg_tup (pg_tup rfl (mg_cons (mg_name (i := 1) sc_is_code_value.nd rfl (by first | exact .inl rfl | exact .inr rfl)) (mg_cons (mg_name (i := 2) sc_is_code_value.nd rfl (by first | exact .inl rfl | exact .inr rfl)) mg_nil)))))
  (mss_cons (ms_if (mt_w (mt_or (mt_not (mt_b (me_isB rfl T.z_isinstance rfl T.z_tuple (by decide +kernel) (me_var 2)))) (mt_or1 (mt_not (mt_chain op_le om_le op_le om_le me_int (me_callB cr_len cm_len rfl T.z_len (by decide +kernel) (ma_cons (me_var 2) ma_nil)) (me_glob (v := .int (400)) rfl T.m_MOST_ROUTINES ⟨_, rfl⟩ fun _ _ => .int _)))))) (mss_one (ms_ret me_bl)) mss_nil)
  (mss_cons (ms_if (mt_w (mt_or (mt_not (mt_b (me_call (ok_is_count T) (hr.mono (by decide)) hgd rfl T.m_is_count T.F_is_count.kp T.b_is_count hx (ma_cons (me_var 1) ma_nil)))) (mt_or1 (mt_cmp op_ge om_ge (me_var 1) (me_callB cr_len cm_len rfl T.z_len (by decide +kernel) (ma_cons (me_var 2) ma_nil)) (nomark _))))) (mss_one (ms_ret me_bl)) mss_nil)
  (mss_cons (ms_if (mt_not (mt_b (me_callBL (cr_all rfl) cm_all rfl T.z_all (by decide +kernel) (ml_lc [("routine", 3)] rfl sc_is_code_value.nd (blkOk_by (N := ["value", "start", "routines", "routine"]) (sc := defScope s_is_code_value) (own := [("routine", 3)]) (by decide +kernel)) (gown_name 3 (by decide)) (mi_seq (me_var 2)) (fun _ _ _ _ _ => pg_name (i := 3) sc_is_code_value.nd rfl (Or.inl rfl)) (fun _ _ _ _ _ => (me_call (ok_is_routine_form T) (hr.mono (by decide)) hgd rfl T.m_is_routine_form T.F_is_routine_form.kp T.b_is_routine_form passL (ma_cons (me_var 3) (ma_cons (me_callB cr_len cm_len rfl T.z_len (by decide +kernel) (ma_cons (me_var 2) ma_nil)) ma_nil)))))))) (mss_one (ms_ret me_bl)) mss_nil)
  (mss_one (ms_ret (me_callBL (cr_all rfl) cm_all rfl T.z_all (by decide +kernel) (ml_lc [("routine", 3)] rfl sc_is_code_value.nd (blkOk_by (N := ["value", "start", "routines", "routine"]) (sc := defScope s_is_code_value) (own := [("routine", 3)]) (by decide +kernel)) (gown_name 3 (by decide)) (mi_seq (me_var 2)) (fun _ _ _ _ _ => pg_name (i := 3) sc_is_code_value.nd rfl (Or.inl rfl)) (fun _ _ _ _ _ => (me_cmp or_isNot om_isNot (me_call (ok_stands_of T) (hr.mono (by decide)) hgd rfl T.m_stands_of T.F_stands_of.kp T.b_stands_of passL (ma_cons (me_var 3) ma_nil)) me_non (nomark _))))))))))))) (by decide)
theorem sc_is_code : FnScope ["value"] ["value"] (defScope s_is_code) := ⟨rfl, rfl, rfl, by decide +kernel, rfl, by decide +kernel, by decide +kernel⟩
set_option maxHeartbeats 4000000 in
theorem ok_is_code (T : Tx K mg) : FnG P w K mg base 6 T.a_is_code T.d_is_code ["value"] (spM K T.cls m_is_code) := FnG.mono (j := 6) (fn_m (N := ["value"]) (ps := ["value"]) T.F_is_code sc_is_code fun cdv A outer s H E hr hgd =>
    have hx : Passes (L2.CX P w) (cxOf (L2.CX P w) P w K mg base ["value"] "is_code" (defScope s_is_code) T.a_is_code cdv A outer s H E) E := passes_call (takes_of rfl rfl rfl rfl) fun _ _ _ _ h => h
    have hu := hu_of hr
    have hu64 := hr.units
    by exact (mss_one (ms_ret (me_call (ok_is_code_value T) (hr.mono (by decide)) hgd rfl T.m_is_code_value T.F_is_code_value.kp T.b_is_code_value hx (ma_cons (me_var 0) ma_nil))))) (by decide)
theorem sc_Frame____init__ : FnScope ["self", "position"] ["self", "position"] (defScope s_Frame____init__) := ⟨rfl, rfl, rfl, by decide +kernel, rfl, by decide +kernel, by decide +kernel⟩
set_option maxHeartbeats 4000000 in
theorem ok_Frame____init__ (T : Tx K mg) : FnG P w K mg base 1 T.a_Frame____init__ T.d_Frame____init__ ["self", "position"] (spM K T.cls m_Frame____init__) := FnG.mono (j := 1) (fn_m (N := ["self", "position"]) (ps := ["self", "position"]) T.F_Frame____init__ sc_Frame____init__ fun cdv A outer s H E hr hgd =>
    have hx : Passes (L2.CX P w) (cxOf (L2.CX P w) P w K mg base ["self", "position"] "Frame.__init__" (defScope s_Frame____init__) T.a_Frame____init__ cdv A outer s H E) E := passes_call (takes_of rfl rfl rfl rfl) fun _ _ _ _ h => h
    have hu := hu_of hr
    have hu64 := hr.units
    by exact (mss_cons (ms_asg (me_var 1) (mg_fld T.f_position (me_var 0)))
  (mss_cons (ms_asg me_int (mg_fld T.f_place (me_var 0)))
  (mss_cons (ms_asg (me_new (ml_lst ma_nil)) (mg_fld T.f_stack (me_var 0)))
  (mss_one (ms_asg (me_new (ml_lst ma_nil)) (mg_fld T.f_loops (me_var 0)))))))) (by decide)
end PP

/-! Printed by gen.py: each def does what its function does. -/
namespace PP
open PySem L2 MM
variable {P : Program} {w : World} {K : PySem.W.Frag} {mg : Str → Option Value} {base : Heap}
theorem sc_Machine____init__ : FnScope ["self", "code"] ["self", "code"] (defScope s_Machine____init__) := ⟨rfl, rfl, rfl, by decide +kernel, rfl, by decide +kernel, by decide +kernel⟩
set_option maxHeartbeats 4000000 in
theorem ok_Machine____init__ (T : Tx K mg) : FnG P w K mg base 3 T.a_Machine____init__ T.d_Machine____init__ ["self", "code"] (spM K T.cls m_Machine____init__) := FnG.mono (j := 3) (fn_m (N := ["self", "code"]) (ps := ["self", "code"]) T.F_Machine____init__ sc_Machine____init__ fun cdv A outer s H E hr hgd =>
    have hx : Passes (L2.CX P w) (cxOf (L2.CX P w) P w K mg base ["self", "code"] "Machine.__init__" (defScope s_Machine____init__) T.a_Machine____init__ cdv A outer s H E) E := passes_call (takes_of rfl rfl rfl rfl) fun _ _ _ _ h => h
    have hu := hu_of hr
    have hu64 := hr.units
    by exact (mss_cons (ms_asg (me_ix (ix_u hu) om_ix (me_var 1) me_int (fun _ _ => rfl)) (mg_fld T.f_routines (me_var 0)))
  (mss_cons (ms_asg me_dnew (mg_fld T.f_known (me_var 0)))
  (mss_one (ms_asg (me_new (ml_lst (ma_cons (me_make (cn := "Frame") T.mk_Frame (ok_Frame____init__ T) (hr.mono (by decide)) hgd rfl T.mc_Frame T.b_Frame____init__ hx (ma_cons (me_ix (ix_u hu) om_ix (me_var 1) me_int (fun _ _ => rfl)) ma_nil)) ma_nil))) (mg_fld T.f_frames (me_var 0))))))) (by decide)
theorem sc_Machine__call : FnScope ["self", "position", "open_now", "frame"] ["self", "position"] (defScope s_Machine__call) := ⟨rfl, rfl, rfl, by decide +kernel, rfl, by decide +kernel, by decide +kernel⟩
set_option maxHeartbeats 4000000 in
theorem ok_Machine__call (T : Tx K mg) : FnG P w K mg base 3 T.a_Machine__call T.d_Machine__call ["self", "position"] (spM K T.cls m_Machine__call) := FnG.mono (j := 3) (fn_m (N := ["self", "position", "open_now", "frame"]) (ps := ["self", "position"]) T.F_Machine__call sc_Machine__call fun cdv A outer s H E hr hgd =>
    have hx : Passes (L2.CX P w) (cxOf (L2.CX P w) P w K mg base ["self", "position", "open_now", "frame"] "Machine.call" (defScope s_Machine__call) T.a_Machine__call cdv A outer s H E) E := passes_call (takes_of rfl rfl rfl rfl) fun _ _ _ _ h => h
    have hu := hu_of hr
    have hu64 := hr.units
    by exact (mss_cons (ms_if (mt_cmp (or_in hu) (om_in false) (me_var 1) (me_fld T.f_known (me_var 0)) rfl) (mss_cons (ms_expr (me_bm PySem.F.plainAttrs_list PySem.F.slot_list_append PySem.F.type_list_append mt_append bm_append (me_fld T.f_stack (me_ix (ix_u hu) om_ix (me_fld T.f_frames (me_var 0)) (me_un un_neg om_neg me_int) (fun _ _ => rfl))) (ma_cons (me_ix (ix_u hu) om_ix (me_fld T.f_known (me_var 0)) (me_var 1) (fun _ _ => rfl)) ma_nil)))
  (mss_one (ms_ret me_non))) mss_nil)
  (mss_cons (ms_setLc (i := 2) [("frame", 3)] rfl sc_Machine__call.nd rfl rfl (sw_true rfl rfl rfl (by decide +kernel)) (blkOk_by (N := ["self", "position", "open_now", "frame"]) (sc := defScope s_Machine__call) (own := [("frame", 3)]) (by decide +kernel)) (gown_name 3 (by decide)) (mi_seq (me_fld T.f_frames (me_var 0))) (fun _ _ _ _ _ => pg_name (i := 3) sc_Machine__call.nd rfl (Or.inl rfl)) (fun _ _ _ _ _ => (me_fld T.f_position (me_var 3))))
  (mss_cons (ms_if (mt_cmp (or_in hu) (om_in false) (me_var 1) (me_var 2) rfl) (mss_one (ms_ret (me_tup (ma_cons me_str (ma_cons me_str (ma_cons (me_callB (cr_min rfl) cm_minL rfl T.z_min (by decide +kernel) (ma_cons (me_slice (me_var 2) (mo_some (me_bm PySem.F.plainAttrs_list PySem.F.slot_list_index PySem.F.type_list_index mt_index bm_index (me_var 2) (ma_cons (me_var 1) ma_nil))) mo_none) ma_nil)) ma_nil)))))) mss_nil)
  (mss_cons (ms_expr (me_bm PySem.F.plainAttrs_list PySem.F.slot_list_append PySem.F.type_list_append mt_append bm_append (me_fld T.f_frames (me_var 0)) (ma_cons (me_make (cn := "Frame") T.mk_Frame (ok_Frame____init__ T) (hr.mono (by decide)) hgd rfl T.mc_Frame T.b_Frame____init__ hx (ma_cons (me_var 1) ma_nil)) ma_nil)))
  (mss_one (ms_ret me_non))))))) (by decide)
theorem sc_Machine__close_loop : FnScope ["self", "spot", "frame", "loop"] ["self", "spot"] (defScope s_Machine__close_loop) := ⟨rfl, rfl, rfl, by decide +kernel, rfl, by decide +kernel, by decide +kernel⟩
set_option maxHeartbeats 4000000 in
theorem ok_Machine__close_loop (T : Tx K mg) : FnG P w K mg base 1 T.a_Machine__close_loop T.d_Machine__close_loop ["self", "spot"] (spM K T.cls m_Machine__close_loop) := FnG.mono (j := 1) (fn_m (N := ["self", "spot", "frame", "loop"]) (ps := ["self", "spot"]) T.F_Machine__close_loop sc_Machine__close_loop fun cdv A outer s H E hr hgd =>
    have hx : Passes (L2.CX P w) (cxOf (L2.CX P w) P w K mg base ["self", "spot", "frame", "loop"] "Machine.close_loop" (defScope s_Machine__close_loop) T.a_Machine__close_loop cdv A outer s H E) E := passes_call (takes_of rfl rfl rfl rfl) fun _ _ _ _ h => h
    have hu := hu_of hr
    have hu64 := hr.units
    by exact (mss_cons (ms_asg (me_ix (ix_u hu) om_ix (me_fld T.f_frames (me_var 0)) (me_un un_neg om_neg me_int) (fun _ _ => rfl)) (mg_name (i := 2) sc_Machine__close_loop.nd rfl (by first | exact .inl rfl | exact .inr rfl)))
  (mss_cons (ms_asg (me_ix (ix_u hu) om_ix (me_fld T.f_loops (me_var 2)) (me_un un_neg om_neg me_int) (fun _ _ => rfl)) (mg_name (i := 3) sc_Machine__close_loop.nd rfl (by first | exact .inl rfl | exact .inr rfl)))
  (mss_cons (ms_asg (me_bm0 PySem.F.plainAttrs_list PySem.F.slot_list_pop PySem.F.type_list_pop mt_pop bm_pop (me_fld T.f_stack (me_var 2))) (mg_sub hu (me_var 3) me_int))
  (mss_cons (ms_asg (me_op or_add om_add (me_ix (ix_u hu) om_ix (me_var 3) me_int (fun _ _ => rfl)) me_int) (mg_sub hu (me_var 3) me_int))
  (mss_one (ms_if (mt_cmp op_lt om_lt (me_ix (ix_u hu) om_ix (me_var 3) me_int (fun _ _ => rfl)) (me_ix (ix_u hu) om_ix (me_var 3) me_int (fun _ _ => rfl)) (nomark _)) (mss_one (ms_asg (me_var 1) (mg_fld T.f_place (me_var 2)))) (mss_cons (ms_expr (me_bm0 PySem.F.plainAttrs_list PySem.F.slot_list_pop PySem.F.type_list_pop mt_pop bm_pop (me_fld T.f_loops (me_var 2))))
  (mss_one (ms_expr (me_bm PySem.F.plainAttrs_list PySem.F.slot_list_append PySem.F.type_list_append mt_append bm_append (me_fld T.f_stack (me_var 2)) (ma_cons (me_ix (ix_u hu) om_ix (me_var 3) me_int (fun _ _ => rfl)) ma_nil)))))))))))) (by decide)
theorem sc_Machine__come_back : FnScope ["self", "frame", "number"] ["self"] (defScope s_Machine__come_back) := ⟨rfl, rfl, rfl, by decide +kernel, rfl, by decide +kernel, by decide +kernel⟩
set_option maxHeartbeats 4000000 in
theorem ok_Machine__come_back (T : Tx K mg) : FnG P w K mg base 1 T.a_Machine__come_back T.d_Machine__come_back ["self"] (spM K T.cls m_Machine__come_back) := FnG.mono (j := 1) (fn_m (N := ["self", "frame", "number"]) (ps := ["self"]) T.F_Machine__come_back sc_Machine__come_back fun cdv A outer s H E hr hgd =>
    have hx : Passes (L2.CX P w) (cxOf (L2.CX P w) P w K mg base ["self", "frame", "number"] "Machine.come_back" (defScope s_Machine__come_back) T.a_Machine__come_back cdv A outer s H E) E := passes_call (takes_of rfl rfl rfl rfl) fun _ _ _ _ h => h
    have hu := hu_of hr
    have hu64 := hr.units
    by exact (mss_cons (ms_asg (me_bm0 PySem.F.plainAttrs_list PySem.F.slot_list_pop PySem.F.type_list_pop mt_pop bm_pop (me_fld T.f_frames (me_var 0))) (mg_name (i := 1) sc_Machine__come_back.nd rfl (by first | exact .inl rfl | exact .inr rfl)))
  (mss_cons (ms_asg (me_bm0 PySem.F.plainAttrs_list PySem.F.slot_list_pop PySem.F.type_list_pop mt_pop bm_pop (me_fld T.f_stack (me_var 1))) (mg_name (i := 2) sc_Machine__come_back.nd rfl (by first | exact .inl rfl | exact .inr rfl)))
  (mss_cons (ms_asg (me_var 2) (mg_sub hu (me_fld T.f_known (me_var 0)) (me_fld T.f_position (me_var 1))))
  (mss_cons (ms_if (mt_cmp (or_eq hu64) om_eq (me_fld T.f_frames (me_var 0)) (me_new (ml_lst ma_nil)) (nomark _)) (mss_one (ms_ret (me_tup (ma_cons me_str (ma_cons (me_var 2) ma_nil))))) mss_nil)
  (mss_cons (ms_expr (me_bm PySem.F.plainAttrs_list PySem.F.slot_list_append PySem.F.type_list_append mt_append bm_append (me_fld T.f_stack (me_ix (ix_u hu) om_ix (me_fld T.f_frames (me_var 0)) (me_un un_neg om_neg me_int) (fun _ _ => rfl))) (ma_cons (me_var 2) ma_nil)))
  (mss_one (ms_ret me_non)))))))) (by decide)
theorem sc_Machine__stop : FnScope ["self", "word"] ["self", "word"] (defScope s_Machine__stop) := ⟨rfl, rfl, rfl, by decide +kernel, rfl, by decide +kernel, by decide +kernel⟩
set_option maxHeartbeats 4000000 in
theorem ok_Machine__stop (T : Tx K mg) : FnG P w K mg base 1 T.a_Machine__stop T.d_Machine__stop ["self", "word"] (spM K T.cls m_Machine__stop) := FnG.mono (j := 1) (fn_m (N := ["self", "word"]) (ps := ["self", "word"]) T.F_Machine__stop sc_Machine__stop fun cdv A outer s H E hr hgd =>
    have hx : Passes (L2.CX P w) (cxOf (L2.CX P w) P w K mg base ["self", "word"] "Machine.stop" (defScope s_Machine__stop) T.a_Machine__stop cdv A outer s H E) E := passes_call (takes_of rfl rfl rfl rfl) fun _ _ _ _ h => h
    have hu := hu_of hr
    have hu64 := hr.units
    by exact (mss_one (ms_ret (me_tup (ma_cons me_str (ma_cons (me_var 1) (ma_cons (me_fld T.f_position (me_ix (ix_u hu) om_ix (me_fld T.f_frames (me_var 0)) (me_un un_neg om_neg me_int) (fun _ _ => rfl))) ma_nil))))))) (by decide)
theorem sc_operated : FnScope ["word", "one", "two", "found"] ["word", "one", "two"] (defScope s_operated) := ⟨rfl, rfl, rfl, by decide +kernel, rfl, by decide +kernel, by decide +kernel⟩
set_option maxHeartbeats 4000000 in
theorem ok_operated (T : Tx K mg) : FnG P w K mg base 1 T.a_operated T.d_operated ["word", "one", "two"] (spM K T.cls m_operated) := FnG.mono (j := 1) (fn_m (N := ["word", "one", "two", "found"]) (ps := ["word", "one", "two"]) T.F_operated sc_operated fun cdv A outer s H E hr hgd =>
    have hx : Passes (L2.CX P w) (cxOf (L2.CX P w) P w K mg base ["word", "one", "two", "found"] "operated" (defScope s_operated) T.a_operated cdv A outer s H E) E := passes_call (takes_of rfl rfl rfl rfl) fun _ _ _ _ h => h
    have hu := hu_of hr
    have hu64 := hr.units
    by exact (mss_cons (ms_if (mt_w (mt_and (mt_cmp (or_in hu) (om_in false) (me_var 0) (me_tup (ma_cons me_str (ma_cons me_str ma_nil))) rfl) (mt_and1 (mt_cmp (or_eq hu64) om_eq (me_var 2) me_int (nomark _))))) (mss_one (ms_ret me_str)) mss_nil)
  (mss_cons (ms_if (mt_cmp (or_eq hu64) om_eq (me_var 0) me_str (nomark _)) (mss_one (ms_asg (me_op or_add om_add (me_var 1) (me_var 2)) (mg_name (i := 3) sc_operated.nd rfl (by first | exact .inl rfl | exact .inr rfl)))) (mss_one (ms_if (mt_cmp (or_eq hu64) om_eq (me_var 0) me_str (nomark _)) (mss_one (ms_asg (me_op op_sub om_sub (me_var 1) (me_var 2)) (mg_name (i := 3) sc_operated.nd rfl (by first | exact .inl rfl | exact .inr rfl)))) (mss_one (ms_if (mt_cmp (or_eq hu64) om_eq (me_var 0) me_str (nomark _)) (mss_one (ms_asg (me_op or_mul om_mul (me_var 1) (me_var 2)) (mg_name (i := 3) sc_operated.nd rfl (by first | exact .inl rfl | exact .inr rfl)))) (mss_one (ms_if (mt_cmp (or_eq hu64) om_eq (me_var 0) me_str (nomark _)) (mss_one (ms_asg (me_op op_fdivG om_fdiv (me_var 1) (me_var 2)) (mg_name (i := 3) sc_operated.nd rfl (by first | exact .inl rfl | exact .inr rfl)))) (mss_one (ms_if (mt_cmp (or_eq hu64) om_eq (me_var 0) me_str (nomark _)) (mss_one (ms_asg (me_op op_modN om_mod (me_var 1) (me_var 2)) (mg_name (i := 3) sc_operated.nd rfl (by first | exact .inl rfl | exact .inr rfl)))) (mss_one (ms_asg (me_callTy call_int1 cm_int rfl T.z_int (by decide +kernel) (ma_cons (me_if (mt_cmp (or_eq hu64) om_eq (me_var 0) me_str (nomark _)) (me_cmp op_lt om_lt (me_var 1) (me_var 2) (nomark _)) (me_cmp (or_eq hu64) om_eq (me_var 1) (me_var 2) (nomark _))) ma_nil)) (mg_name (i := 3) sc_operated.nd rfl (by first | exact .inl rfl | exact .inr rfl)))))))))))))
  (mss_one (ms_ret (me_if (mt_cmp op_le om_le (me_callB call_abs cm_abs rfl T.z_abs (by decide +kernel) (ma_cons (me_var 3) ma_nil)) (me_glob (v := .int (1000000000000)) rfl T.m_MOST_NUMBER ⟨_, rfl⟩ fun _ _ => .int _) (nomark _)) (me_var 3) me_str)))))) (by decide)
theorem sc_Machine__operate : FnScope ["self", "word", "stack", "two", "one", "found"] ["self", "word"] (defScope s_Machine__operate) := ⟨rfl, rfl, rfl, by decide +kernel, rfl, by decide +kernel, by decide +kernel⟩
set_option maxHeartbeats 4000000 in
theorem ok_Machine__operate (T : Tx K mg) : FnG P w K mg base 2 T.a_Machine__operate T.d_Machine__operate ["self", "word"] (spM K T.cls m_Machine__operate) := FnG.mono (j := 2) (fn_m (N := ["self", "word", "stack", "two", "one", "found"]) (ps := ["self", "word"]) T.F_Machine__operate sc_Machine__operate fun cdv A outer s H E hr hgd =>
    have hx : Passes (L2.CX P w) (cxOf (L2.CX P w) P w K mg base ["self", "word", "stack", "two", "one", "found"] "Machine.operate" (defScope s_Machine__operate) T.a_Machine__operate cdv A outer s H E) E := passes_call (takes_of rfl rfl rfl rfl) fun _ _ _ _ h => h
    have hu := hu_of hr
    have hu64 := hr.units
    by exact (mss_cons (ms_asg (me_fld T.f_stack (me_ix (ix_u hu) om_ix (me_fld T.f_frames (me_var 0)) (me_un un_neg om_neg me_int) (fun _ _ => rfl))) (mg_name (i := 2) sc_Machine__operate.nd rfl (by first | exact .inl rfl | exact .inr rfl)))
  (mss_cons (ms_asg (me_bm0 PySem.F.plainAttrs_list PySem.F.slot_list_pop PySem.F.type_list_pop mt_pop bm_pop (me_var 2)) (mg_name (i := 3) sc_Machine__operate.nd rfl (by first | exact .inl rfl | exact .inr rfl)))
  (mss_cons (ms_asg (me_bm0 PySem.F.plainAttrs_list PySem.F.slot_list_pop PySem.F.type_list_pop mt_pop bm_pop (me_var 2)) (mg_name (i := 4) sc_Machine__operate.nd rfl (by first | exact .inl rfl | exact .inr rfl)))
  (mss_cons (ms_asg (me_call (ok_operated T) (hr.mono (by decide)) hgd rfl T.m_operated T.F_operated.kp T.b_operated hx (ma_cons (me_var 1) (ma_cons (me_var 4) (ma_cons (me_var 3) ma_nil)))) (mg_name (i := 5) sc_Machine__operate.nd rfl (by first | exact .inl rfl | exact .inr rfl)))
  (mss_cons (ms_if (mt_b (me_isB rfl T.z_isinstance rfl T.z_str (by decide +kernel) (me_var 5))) (mss_one (ms_ret (me_meth (cn := "Machine") (me_var 0) T.c_Machine T.me_Machine__stop (ok_Machine__stop T) (hr.mono (by decide)) hgd T.b_Machine__stop hx (ma_cons (me_var 5) ma_nil)))) mss_nil)
  (mss_cons (ms_expr (me_bm PySem.F.plainAttrs_list PySem.F.slot_list_append PySem.F.type_list_append mt_append bm_append (me_var 2) (ma_cons (me_var 5) ma_nil)))
  (mss_one (ms_ret me_non))))))))) (by decide)
theorem sc_Machine__do_lone : FnScope ["self", "word", "frame"] ["self", "word"] (defScope s_Machine__do_lone) := ⟨rfl, rfl, rfl, by decide +kernel, rfl, by decide +kernel, by decide +kernel⟩
set_option maxHeartbeats 4000000 in
theorem ok_Machine__do_lone (T : Tx K mg) : FnG P w K mg base 3 T.a_Machine__do_lone T.d_Machine__do_lone ["self", "word"] (spM K T.cls m_Machine__do_lone) := FnG.mono (j := 3) (fn_m (N := ["self", "word", "frame"]) (ps := ["self", "word"]) T.F_Machine__do_lone sc_Machine__do_lone fun cdv A outer s H E hr hgd =>
    have hx : Passes (L2.CX P w) (cxOf (L2.CX P w) P w K mg base ["self", "word", "frame"] "Machine.do_lone" (defScope s_Machine__do_lone) T.a_Machine__do_lone cdv A outer s H E) E := passes_call (takes_of rfl rfl rfl rfl) fun _ _ _ _ h => h
    have hu := hu_of hr
    have hu64 := hr.units
    by exact (mss_cons (ms_asg (me_ix (ix_u hu) om_ix (me_fld T.f_frames (me_var 0)) (me_un un_neg om_neg me_int) (fun _ _ => rfl)) (mg_name (i := 2) sc_Machine__do_lone.nd rfl (by first | exact .inl rfl | exact .inr rfl)))
  (mss_cons (ms_if (mt_cmp (or_in hu) (om_in false) (me_var 1) (me_glob (v := .ref T.a_OPERATIONS) rfl T.m_OPERATIONS rfl fun α H => T.v_OPERATIONS α H) rfl) (mss_one (ms_ret (me_meth (cn := "Machine") (me_var 0) T.c_Machine T.me_Machine__operate (ok_Machine__operate T) (hr.mono (by decide)) hgd T.b_Machine__operate hx (ma_cons (me_var 1) ma_nil)))) mss_nil)
  (mss_cons (ms_if (mt_cmp (or_eq hu64) om_eq (me_var 1) me_str (nomark _)) (mss_one (ms_ret (me_meth0 (cn := "Machine") (me_var 0) T.c_Machine T.me_Machine__come_back (ok_Machine__come_back T) (hr.mono (by decide)) hgd T.b_Machine__come_back hx))) mss_nil)
  (mss_cons (ms_expr (me_bm PySem.F.plainAttrs_list PySem.F.slot_list_append PySem.F.type_list_append mt_append bm_append (me_fld T.f_stack (me_var 2)) (ma_cons (me_ix (ix_u hu) om_ix (me_ix (ix_u hu) om_ix (me_fld T.f_loops (me_var 2)) (me_un un_neg om_neg me_int) (fun _ _ => rfl)) (me_if (mt_cmp (or_eq hu64) om_eq (me_var 1) me_str (nomark _)) me_int me_int) (fun _ _ => rfl)) ma_nil)))
  (mss_one (ms_ret me_non))))))) (by decide)
end PP

/-! Printed by gen.py: each def does what its function does. -/
namespace PP
open PySem L2 MM
variable {P : Program} {w : World} {K : PySem.W.Frag} {mg : Str → Option Value} {base : Heap}
theorem sc_Machine__open_loop : FnScope ["self", "spot", "frame", "start", "times"] ["self", "spot"] (defScope s_Machine__open_loop) := ⟨rfl, rfl, rfl, by decide +kernel, rfl, by decide +kernel, by decide +kernel⟩
set_option maxHeartbeats 4000000 in
theorem ok_Machine__open_loop (T : Tx K mg) : FnG P w K mg base 2 T.a_Machine__open_loop T.d_Machine__open_loop ["self", "spot"] (spM K T.cls m_Machine__open_loop) := FnG.mono (j := 2) (fn_m (N := ["self", "spot", "frame", "start", "times"]) (ps := ["self", "spot"]) T.F_Machine__open_loop sc_Machine__open_loop fun cdv A outer s H E hr hgd =>
    have hx : Passes (L2.CX P w) (cxOf (L2.CX P w) P w K mg base ["self", "spot", "frame", "start", "times"] "Machine.open_loop" (defScope s_Machine__open_loop) T.a_Machine__open_loop cdv A outer s H E) E := passes_call (takes_of rfl rfl rfl rfl) fun _ _ _ _ h => h
    have hu := hu_of hr
    have hu64 := hr.units
    by exact (mss_cons (ms_asg (me_ix (ix_u hu) om_ix (me_fld T.f_frames (me_var 0)) (me_un un_neg om_neg me_int) (fun _ _ => rfl)) (mg_name (i := 2) sc_Machine__open_loop.nd rfl (by first | exact .inl rfl | exact .inr rfl)))
  (mss_cons (ms_asg (me_bm0 PySem.F.plainAttrs_list PySem.F.slot_list_pop PySem.F.type_list_pop mt_pop bm_pop (me_fld T.f_stack (me_var 2))) (mg_name (i := 3) sc_Machine__open_loop.nd rfl (by first | exact .inl rfl | exact .inr rfl)))
  (mss_cons (ms_asg (me_bm0 PySem.F.plainAttrs_list PySem.F.slot_list_pop PySem.F.type_list_pop mt_pop bm_pop (me_fld T.f_stack (me_var 2))) (mg_name (i := 4) sc_Machine__open_loop.nd rfl (by first | exact .inl rfl | exact .inr rfl)))
  (mss_cons (ms_if (mt_cmp op_gt om_gt (me_var 4) (me_glob (v := .int (200)) rfl T.m_MOST_TIMES ⟨_, rfl⟩ fun _ _ => .int _) (nomark _)) (mss_one (ms_ret (me_meth (cn := "Machine") (me_var 0) T.c_Machine T.me_Machine__stop (ok_Machine__stop T) (hr.mono (by decide)) hgd T.b_Machine__stop hx (ma_cons me_str ma_nil)))) mss_nil)
  (mss_cons (ms_if (mt_cmp op_lt om_lt (me_var 4) me_int (nomark _)) (mss_cons (ms_expr (me_bm PySem.F.plainAttrs_list PySem.F.slot_list_append PySem.F.type_list_append mt_append bm_append (me_fld T.f_stack (me_var 2)) (ma_cons (me_var 3) ma_nil)))
  (mss_one (ms_asg (me_var 1) (mg_fld T.f_place (me_var 2))))) (mss_one (ms_expr (me_bm PySem.F.plainAttrs_list PySem.F.slot_list_append PySem.F.type_list_append mt_append bm_append (me_fld T.f_loops (me_var 2)) (ma_cons (me_new (ml_lst (ma_cons (me_var 4) (ma_cons (me_var 3) (ma_cons me_int ma_nil))))) ma_nil)))))
  (mss_one (ms_ret me_non)))))))) (by decide)
theorem sc_Machine__step : FnScope ["self", "frame", "instruction", "word", "part"] ["self"] (defScope s_Machine__step) := ⟨rfl, rfl, rfl, by decide +kernel, rfl, by decide +kernel, by decide +kernel⟩
set_option maxHeartbeats 4000000 in
theorem ok_Machine__step (T : Tx K mg) : FnG P w K mg base 4 T.a_Machine__step T.d_Machine__step ["self"] (spM K T.cls m_Machine__step) := FnG.mono (j := 4) (fn_m (N := ["self", "frame", "instruction", "word", "part"]) (ps := ["self"]) T.F_Machine__step sc_Machine__step fun cdv A outer s H E hr hgd =>
    have hx : Passes (L2.CX P w) (cxOf (L2.CX P w) P w K mg base ["self", "frame", "instruction", "word", "part"] "Machine.step" (defScope s_Machine__step) T.a_Machine__step cdv A outer s H E) E := passes_call (takes_of rfl rfl rfl rfl) fun _ _ _ _ h => h
    have hu := hu_of hr
    have hu64 := hr.units
    by exact (mss_cons (ms_asg (me_ix (ix_u hu) om_ix (me_fld T.f_frames (me_var 0)) (me_un un_neg om_neg me_int) (fun _ _ => rfl)) (mg_name (i := 1) sc_Machine__step.nd rfl (by first | exact .inl rfl | exact .inr rfl)))
  (mss_cons (ms_asg (me_ix (ix_u hu) om_ix (me_ix (ix_u hu) om_ix (me_fld T.f_routines (me_var 0)) (me_fld T.f_position (me_var 1)) (fun _ _ => rfl)) (me_fld T.f_place (me_var 1)) (fun _ _ => rfl)) (mg_name (i := 2) sc_Machine__step.nd rfl (by first | exact .inl rfl | exact .inr rfl)))
  (mss_cons (ms_asg (me_tup (ma_cons (me_op or_add om_add (me_fld T.f_place (me_var 1)) me_int) (ma_cons (me_ix (ix_u hu) om_ix (me_var 2) me_int (fun _ _ => rfl)) ma_nil))) (mg_tup (pg_tup rfl (mg_cons (mg_fld T.f_place (me_var 1)) (mg_cons (mg_name (i := 3) sc_Machine__step.nd rfl (by first | exact .inl rfl | exact .inr rfl)) mg_nil)))))
  (mss_cons (ms_if (mt_cmp (or_eq hu64) om_eq (me_callB cr_len cm_len rfl T.z_len (by decide +kernel) (ma_cons (me_var 2) ma_nil)) me_int (nomark _)) (mss_one (ms_ret (me_meth (cn := "Machine") (me_var 0) T.c_Machine T.me_Machine__do_lone (ok_Machine__do_lone T) (hr.mono (by decide)) hgd T.b_Machine__do_lone hx (ma_cons (me_var 3) ma_nil)))) mss_nil)
  (mss_cons (ms_asg (me_ix (ix_u hu) om_ix (me_var 2) me_int (fun _ _ => rfl)) (mg_name (i := 4) sc_Machine__step.nd rfl (by first | exact .inl rfl | exact .inr rfl)))
  (mss_cons (ms_if (mt_cmp (or_eq hu64) om_eq (me_var 3) me_str (nomark _)) (mss_one (ms_expr (me_bm PySem.F.plainAttrs_list PySem.F.slot_list_append PySem.F.type_list_append mt_append bm_append (me_fld T.f_stack (me_var 1)) (ma_cons (me_var 4) ma_nil)))) (mss_one (ms_if (mt_cmp (or_eq hu64) om_eq (me_var 3) me_str (nomark _)) (mss_one (ms_ret (me_meth (cn := "Machine") (me_var 0) T.c_Machine T.me_Machine__call (ok_Machine__call T) (hr.mono (by decide)) hgd T.b_Machine__call hx (ma_cons (me_var 4) ma_nil)))) (mss_one (ms_if (mt_cmp (or_eq hu64) om_eq (me_var 3) me_str (nomark _)) (mss_one (ms_ret (me_meth (cn := "Machine") (me_var 0) T.c_Machine T.me_Machine__stop (ok_Machine__stop T) (hr.mono (by decide)) hgd T.b_Machine__stop hx (ma_cons (me_var 4) ma_nil)))) (mss_one (ms_if (mt_cmp (or_eq hu64) om_eq (me_var 3) me_str (nomark _)) (mss_one (ms_ret (me_meth (cn := "Machine") (me_var 0) T.c_Machine T.me_Machine__open_loop (ok_Machine__open_loop T) (hr.mono (by decide)) hgd T.b_Machine__open_loop hx (ma_cons (me_var 4) ma_nil)))) (mss_one (ms_if (mt_cmp (or_eq hu64) om_eq (me_var 3) me_str (nomark _)) (mss_one (ms_expr (me_meth (cn := "Machine") (me_var 0) T.c_Machine T.me_Machine__close_loop (ok_Machine__close_loop T) (hr.mono (by decide)) hgd T.b_Machine__close_loop hx (ma_cons (me_var 4) ma_nil)))) (mss_one (ms_if (mt_w (mt_or (mt_cmp (or_eq hu64) om_eq (me_var 3) me_str (nomark _)) (mt_or1 (mt_cmp (or_eq hu64) om_eq (me_bm0 PySem.F.plainAttrs_list PySem.F.slot_list_pop PySem.F.type_list_pop mt_pop bm_pop (me_fld T.f_stack (me_var 1))) me_int (nomark _))))) (mss_one (ms_asg (me_var 4) (mg_fld T.f_place (me_var 1)))) mss_nil)))))))))))
  (mss_one (ms_ret me_non))))))))) (by decide)
theorem sc_run_of : FnScope ["code", "many", "machine", "steps", "found"] ["code", "many"] (defScope s_run_of) := ⟨rfl, rfl, rfl, by decide +kernel, rfl, by decide +kernel, by decide +kernel⟩
set_option maxHeartbeats 4000000 in
theorem ok_run_of (T : Tx K mg) : FnG P w K mg base 5 T.a_run_of T.d_run_of ["code", "many"] (spM K T.cls m_run_of) := FnG.mono (j := 5) (fn_m (N := ["code", "many", "machine", "steps", "found"]) (ps := ["code", "many"]) T.F_run_of sc_run_of fun cdv A outer s H E hr hgd =>
    have hx : Passes (L2.CX P w) (cxOf (L2.CX P w) P w K mg base ["code", "many", "machine", "steps", "found"] "run_of" (defScope s_run_of) T.a_run_of cdv A outer s H E) E := passes_call (takes_of rfl rfl rfl rfl) fun _ _ _ _ h => h
    have hu := hu_of hr
    have hu64 := hr.units
    by exact (mss_cons (ms_asg (me_make (cn := "Machine") T.mk_Machine (ok_Machine____init__ T) (hr.mono (by decide)) hgd rfl T.mc_Machine T.b_Machine____init__ hx (ma_cons (me_var 0) ma_nil)) (mg_name (i := 2) sc_run_of.nd rfl (by first | exact .inl rfl | exact .inr rfl)))
  (mss_cons (ms_for (passes_of rfl) rfl (mi_rng2 rfl T.z_range me_int (me_op or_add om_add (me_var 1) me_int)) (mg_name (i := 3) sc_run_of.nd rfl (by first | exact .inl rfl | exact .inr rfl)) (mss_cons (ms_asg (me_meth0 (cn := "Machine") (me_var 2) T.c_Machine T.me_Machine__step (ok_Machine__step T) (hr.mono (by decide)) hgd T.b_Machine__step hx) (mg_name (i := 4) sc_run_of.nd rfl (by first | exact .inl rfl | exact .inr rfl)))
  (mss_one (ms_if (mt_cmp or_isNot om_isNot (me_var 4) me_non (nomark _)) (mss_one (ms_ret (me_op or_add om_add (me_var 4) (me_tup (ma_cons (me_var 3) ma_nil))))) mss_nil))))
  (mss_one (ms_ret (me_tup (ma_cons me_str (ma_cons (me_var 1) ma_nil)))))))) (by decide)
theorem sc_want_code : FnScope ["value"] ["value"] (defScope s_want_code) := ⟨rfl, rfl, rfl, by decide +kernel, rfl, by decide +kernel, by decide +kernel⟩
set_option maxHeartbeats 4000000 in
theorem ok_want_code (T : Tx K mg) : FnG P w K mg base 6 T.a_want_code T.d_want_code ["value"] (spM K T.cls m_want_code) := FnG.mono (j := 6) (fn_m (N := ["value"]) (ps := ["value"]) T.F_want_code sc_want_code fun cdv A outer s H E hr hgd =>
    have hx : Passes (L2.CX P w) (cxOf (L2.CX P w) P w K mg base ["value"] "want_code" (defScope s_want_code) T.a_want_code cdv A outer s H E) E := passes_call (takes_of rfl rfl rfl rfl) fun _ _ _ _ h => h
    have hu := hu_of hr
    have hu64 := hr.units
    by exact (mss_cons (ms_if (mt_not (mt_b (me_call (ok_is_code_value T) (hr.mono (by decide)) hgd rfl T.m_is_code_value T.F_is_code_value.kp T.b_is_code_value hx (ma_cons (me_var 0) ma_nil)))) (mss_one ms_never) mss_nil)
  (mss_one (ms_ret (me_var 0))))) (by decide)
theorem sc_run : FnScope ["code", "many", "here"] ["code", "many"] (defScope s_run) := ⟨rfl, rfl, rfl, by decide +kernel, rfl, by decide +kernel, by decide +kernel⟩
set_option maxHeartbeats 4000000 in
theorem ok_run (T : Tx K mg) : FnG P w K mg base 7 T.a_run T.d_run ["code", "many"] (spM K T.cls m_run) := FnG.mono (j := 7) (fn_m (N := ["code", "many", "here"]) (ps := ["code", "many"]) T.F_run sc_run fun cdv A outer s H E hr hgd =>
    have hx : Passes (L2.CX P w) (cxOf (L2.CX P w) P w K mg base ["code", "many", "here"] "run" (defScope s_run) T.a_run cdv A outer s H E) E := passes_call (takes_of rfl rfl rfl rfl) fun _ _ _ _ h => h
    have hu := hu_of hr
    have hu64 := hr.units
    by exact (mss_cons (ms_asg (me_call (ok_want_code T) (hr.mono (by decide)) hgd rfl T.m_want_code T.F_want_code.kp T.b_want_code hx (ma_cons (me_var 0) ma_nil)) (mg_name (i := 2) sc_run.nd rfl (by first | exact .inl rfl | exact .inr rfl)))
  (mss_cons (ms_if (mt_w (mt_or (mt_not (mt_b (me_call (ok_is_count T) (hr.mono (by decide)) hgd rfl T.m_is_count T.F_is_count.kp T.b_is_count hx (ma_cons (me_var 1) ma_nil)))) (mt_or1 (mt_cmp op_gt om_gt (me_var 1) (me_glob (v := .int (60000)) rfl T.m_MOST_STEPS ⟨_, rfl⟩ fun _ _ => .int _) (nomark _))))) (mss_one ms_never) mss_nil)
  (mss_one (ms_ret (me_call (ok_run_of T) (hr.mono (by decide)) hgd rfl T.m_run_of T.F_run_of.kp T.b_run_of hx (ma_cons (me_var 2) (ma_cons (me_var 1) ma_nil)))))))) (by decide)
theorem sc_L_law_great_right : FnScope ["pot", "code", "due", "many"] ["pot"] (defScope s_L_law_great_right) := ⟨rfl, rfl, rfl, by decide +kernel, rfl, by decide +kernel, by decide +kernel⟩
set_option maxHeartbeats 4000000 in
theorem ok_L_law_great_right (T : Tx K mg) : FnG P w K mg base 14 T.a_L_law_great_right T.d_L_law_great_right ["pot"] (spM K T.cls m_L_law_great_right) := FnG.mono (j := 14) (fn_m (N := ["pot", "code", "due", "many"]) (ps := ["pot"]) T.F_L_law_great_right sc_L_law_great_right fun cdv A outer s H E hr hgd =>
    have hx : Passes (L2.CX P w) (cxOf (L2.CX P w) P w K mg base ["pot", "code", "due", "many"] "_law_great_right" (defScope s_L_law_great_right) T.a_L_law_great_right cdv A outer s H E) E := passes_call (takes_of rfl rfl rfl rfl) fun _ _ _ _ h => h
    have hu := hu_of hr
    have hu64 := hr.units
    by exact (mss_cons (ms_asg (me_call (ok_L_law_great T) (hr.mono (by decide)) hgd rfl T.m_L_law_great T.F_L_law_great.kp T.b_L_law_great hx (ma_cons (me_var 0) ma_nil)) (mg_name (i := 1) sc_L_law_great_right.nd rfl (by first | exact .inl rfl | exact .inr rfl)))
  (mss_cons (ms_asg (me_call (ok_L_law_run T) (hr.mono (by decide)) hgd rfl T.m_L_law_run T.F_L_law_run.kp T.b_L_law_run hx (ma_cons (me_var 1) (ma_cons me_int ma_nil))) (mg_name (i := 2) sc_L_law_great_right.nd rfl (by first | exact .inl rfl | exact .inr rfl)))
  (mss_cons (ms_if (mt_w (mt_or (mt_cmp or_isNot om_isNot (me_call (ok_is_code T) (hr.mono (by decide)) hgd rfl T.m_is_code T.F_is_code.kp T.b_is_code hx (ma_cons (me_var 1) ma_nil)) me_bl (nomark _)) (mt_or1 (mt_cmp (or_ne hu64) om_ne (me_callB (cr_repr hgd hu64) cm_repr rfl T.z_repr (by decide +kernel) (ma_cons (me_call (ok_run T) (hr.mono (by decide)) hgd rfl T.m_run T.F_run.kp T.b_run hx (ma_cons (me_var 1) (ma_cons me_int ma_nil))) ma_nil)) (me_callB (cr_repr hgd hu64) cm_repr rfl T.z_repr (by decide +kernel) (ma_cons (me_var 2) ma_nil)) (nomark _))))) (mss_one (ms_ret me_bl)) mss_nil)
  (mss_cons (ms_asg (me_callB (call_max2 rfl) cm_max2 rfl T.z_max (by decide +kernel) (ma_cons me_int (ma_cons (me_op op_sub om_sub (me_op op_sub om_sub (me_ix (ix_u hu) om_ix (me_var 2) (me_un un_neg om_neg me_int) (fun _ _ => rfl)) me_int) (me_call (ok_L_law_draw T) (hr.mono (by decide)) hgd rfl T.m_L_law_draw T.F_L_law_draw.kp T.b_L_law_draw hx (ma_cons (me_var 0) (ma_cons me_int ma_nil)))) ma_nil))) (mg_name (i := 3) sc_L_law_great_right.nd rfl (by first | exact .inl rfl | exact .inr rfl)))
  (mss_one (ms_ret (me_cmp (or_eq hu64) om_eq (me_callB (cr_repr hgd hu64) cm_repr rfl T.z_repr (by decide +kernel) (ma_cons (me_callK0 (perm := permSw) (permV := permSw) (permD := permSw) (ok_run T) (hr.mono (by decide)) hgd rfl T.m_run T.F_run.kp T.kb_run_permSw permSw_v permSw_d hx (mk_cons (me_var 3) (mk_cons (me_var 1) mk_nil))) ma_nil)) (me_callB (cr_repr hgd hu64) cm_repr rfl T.z_repr (by decide +kernel) (ma_cons (me_tup (ma_cons me_str (ma_cons (me_var 3) ma_nil))) ma_nil)) (nomark _))))))))) (by decide)
theorem sc_L_law_right : FnScope ["pot", "code", "stays", "due", "taken", "many"] ["pot"] (defScope s_L_law_right) := ⟨rfl, rfl, rfl, by decide +kernel, rfl, by decide +kernel, by decide +kernel⟩
set_option maxHeartbeats 4000000 in
theorem ok_L_law_right (T : Tx K mg) : FnG P w K mg base 18 T.a_L_law_right T.d_L_law_right ["pot"] (spM K T.cls m_L_law_right) := FnG.mono (j := 18) (fn_m (N := ["pot", "code", "stays", "due", "taken", "many"]) (ps := ["pot"]) T.F_L_law_right sc_L_law_right fun cdv A outer s H E hr hgd =>
    have hx : Passes (L2.CX P w) (cxOf (L2.CX P w) P w K mg base ["pot", "code", "stays", "due", "taken", "many"] "_law_right" (defScope s_L_law_right) T.a_L_law_right cdv A outer s H E) E := passes_call (takes_of rfl rfl rfl rfl) fun _ _ _ _ h => h
    have hu := hu_of hr
    have hu64 := hr.units
    by exact (mss_cons (ms_if (mt_cmp (or_eq hu64) om_eq (me_call (ok_L_law_draw T) (hr.mono (by decide)) hgd rfl T.m_L_law_draw T.F_L_law_draw.kp T.b_L_law_draw hx (ma_cons (me_var 0) (ma_cons me_int ma_nil))) me_int (nomark _)) (mss_one (ms_ret (me_call (ok_L_law_great_right T) (hr.mono (by decide)) hgd rfl T.m_L_law_great_right T.F_L_law_great_right.kp T.b_L_law_great_right hx (ma_cons (me_var 0) ma_nil)))) mss_nil)
  (mss_cons (ms_asg (me_call (ok_L_law_code T) (hr.mono (by decide)) hgd rfl T.m_L_law_code T.F_L_law_code.kp T.b_L_law_code hx (ma_cons (me_var 0) ma_nil)) (mg_name (i := 1) sc_L_law_right.nd rfl (by first | exact .inl rfl | exact .inr rfl)))
  (mss_cons (ms_par (i := 2) (j := 3) rfl sc_L_law_right.nd rfl rfl (by decide) rfl rfl rfl (me_callB (cr_repr hgd hu64) cm_repr rfl T.z_repr (by decide +kernel) (ma_cons (me_var 1) ma_nil)) (me_call (ok_L_law_run T) (hr.mono (by decide)) hgd rfl T.m_L_law_run T.F_L_law_run.kp T.b_L_law_run hx (ma_cons (me_var 1) (ma_cons me_int ma_nil))))
  (mss_cons (ms_if (mt_w (mt_or (mt_cmp or_isNot om_isNot (me_call (ok_is_code T) (hr.mono (by decide)) hgd rfl T.m_is_code T.F_is_code.kp T.b_is_code hx (ma_cons (me_var 1) ma_nil)) me_bl (nomark _)) (mt_or1 (mt_cmp (or_ne hu64) om_ne (me_callB (cr_repr hgd hu64) cm_repr rfl T.z_repr (by decide +kernel) (ma_cons (me_call (ok_run T) (hr.mono (by decide)) hgd rfl T.m_run T.F_run.kp T.b_run hx (ma_cons (me_var 1) (ma_cons me_int ma_nil))) ma_nil)) (me_callB (cr_repr hgd hu64) cm_repr rfl T.z_repr (by decide +kernel) (ma_cons (me_var 3) ma_nil)) (nomark _))))) (mss_one (ms_ret me_bl)) mss_nil)
  (mss_cons (ms_asg (me_ix (ix_u hu) om_ix (me_var 3) (me_un un_neg om_neg me_int) (fun _ _ => rfl)) (mg_name (i := 4) sc_L_law_right.nd rfl (by first | exact .inl rfl | exact .inr rfl)))
  (mss_cons (ms_for (passes_of rfl) rfl (mi_seq (me_new (ml_lst (ma_cons me_int (ma_cons (me_callB (call_max2 rfl) cm_max2 rfl T.z_max (by decide +kernel) (ma_cons me_int (ma_cons (me_op op_sub om_sub (me_var 4) me_int) ma_nil))) (ma_cons (me_var 4) (ma_cons (me_op op_fdivG om_fdiv (me_var 4) me_int) (ma_cons (me_op or_add om_add (me_op or_add om_add (me_var 4) me_int) (me_call (ok_L_law_draw T) (hr.mono (by decide)) hgd rfl T.m_L_law_draw T.F_L_law_draw.kp T.b_L_law_draw hx (ma_cons (me_var 0) (ma_cons me_int ma_nil)))) ma_nil)))))))) (mg_name (i := 5) sc_L_law_right.nd rfl (by first | exact .inl rfl | exact .inr rfl)) (mss_one (ms_if (mt_w (mt_and (mt_cmp op_le om_le (me_var 5) me_int (nomark _)) (mt_and1 (mt_cmp (or_ne hu64) om_ne (me_callB (cr_repr hgd hu64) cm_repr rfl T.z_repr (by decide +kernel) (ma_cons (me_callK0 (perm := permSw) (permV := permSw) (permD := permSw) (ok_run T) (hr.mono (by decide)) hgd rfl T.m_run T.F_run.kp T.kb_run_permSw permSw_v permSw_d hx (mk_cons (me_var 5) (mk_cons (me_var 1) mk_nil))) ma_nil)) (me_callB (cr_repr hgd hu64) cm_repr rfl T.z_repr (by decide +kernel) (ma_cons (me_call (ok_L_law_run T) (hr.mono (by decide)) hgd rfl T.m_L_law_run T.F_L_law_run.kp T.b_L_law_run hx (ma_cons (me_var 1) (ma_cons (me_var 5) ma_nil))) ma_nil)) (nomark _))))) (mss_one (ms_ret me_bl)) mss_nil)))
  (mss_one (ms_ret (me_cmp (or_eq hu64) om_eq (me_callB (cr_repr hgd hu64) cm_repr rfl T.z_repr (by decide +kernel) (ma_cons (me_var 1) ma_nil)) (me_var 2) (nomark _))))))))))) (by decide)
theorem sc_law : FnScope ["script"] ["script"] (defScope s_law) := ⟨rfl, rfl, rfl, by decide +kernel, rfl, by decide +kernel, by decide +kernel⟩
set_option maxHeartbeats 4000000 in
theorem ok_law (T : Tx K mg) : FnG P w K mg base 19 T.a_law T.d_law ["script"] (spM K T.cls m_law) := FnG.mono (j := 19) (fn_m (N := ["script"]) (ps := ["script"]) T.F_law sc_law fun cdv A outer s H E hr hgd =>
    have hx : Passes (L2.CX P w) (cxOf (L2.CX P w) P w K mg base ["script"] "law" (defScope s_law) T.a_law cdv A outer s H E) E := passes_call (takes_of rfl rfl rfl rfl) fun _ _ _ _ h => h
    have hu := hu_of hr
    have hu64 := hr.units
    by exact (mss_one (ms_ret (me_call (ok_L_law_right T) (hr.mono (by decide)) hgd rfl T.m_L_law_right T.F_L_law_right.kp T.b_L_law_right hx (ma_cons (me_call (ok_L_law_pot T) (hr.mono (by decide)) hgd rfl T.m_L_law_pot T.F_L_law_pot.kp T.b_L_law_pot hx (ma_cons (me_var 0) (ma_cons me_int ma_nil))) ma_nil))))) (by decide)
end PP

/-! Printed by gen.py: the top, the end. -/
namespace PP
open PySem L2 MM
set_option maxHeartbeats 8000000 in
theorem all_mk {l : PySem.W.OpenLaw} {w : World} {K : PySem.W.Frag} {h : Heap} {mg : Str → Option Value} {fa : Addr} (X : K.In h) (G : h.Ns mainGlobals mg) (hfa : mg "law" = some (.ref fa))
    {C0 : Addr}
    {C1 : Addr}
    {f0 : Addr} {od0 an0 : Option Addr} {sl0 : Array (Option Value)} {oc0 kV0 dc0 pm0 cd0 ct0 : Value}
    {f1 : Addr} {od1 an1 : Option Addr} {sl1 : Array (Option Value)} {oc1 kV1 dc1 pm1 cd1 ct1 : Value}
    {f2 : Addr} {od2 an2 : Option Addr} {sl2 : Array (Option Value)} {oc2 kV2 dc2 pm2 cd2 ct2 : Value}
    {f3 : Addr} {od3 an3 : Option Addr} {sl3 : Array (Option Value)} {oc3 kV3 dc3 pm3 cd3 ct3 : Value}
    {f4 : Addr} {od4 an4 : Option Addr} {sl4 : Array (Option Value)} {oc4 kV4 dc4 pm4 cd4 ct4 : Value}
    {f5 : Addr} {od5 an5 : Option Addr} {sl5 : Array (Option Value)} {oc5 kV5 dc5 pm5 cd5 ct5 : Value}
    {f6 : Addr} {od6 an6 : Option Addr} {sl6 : Array (Option Value)} {oc6 kV6 dc6 pm6 cd6 ct6 : Value}
    {f7 : Addr} {od7 an7 : Option Addr} {sl7 : Array (Option Value)} {oc7 kV7 dc7 pm7 cd7 ct7 : Value}
    {f8 : Addr} {od8 an8 : Option Addr} {sl8 : Array (Option Value)} {oc8 kV8 dc8 pm8 cd8 ct8 : Value}
    {f9 : Addr} {od9 an9 : Option Addr} {sl9 : Array (Option Value)} {oc9 kV9 dc9 pm9 cd9 ct9 : Value}
    {f10 : Addr} {od10 an10 : Option Addr} {sl10 : Array (Option Value)} {oc10 kV10 dc10 pm10 cd10 ct10 : Value}
    {f11 : Addr} {od11 an11 : Option Addr} {sl11 : Array (Option Value)} {oc11 kV11 dc11 pm11 cd11 ct11 : Value}
    {f12 : Addr} {od12 an12 : Option Addr} {sl12 : Array (Option Value)} {oc12 kV12 dc12 pm12 cd12 ct12 : Value}
    {f13 : Addr} {od13 an13 : Option Addr} {sl13 : Array (Option Value)} {oc13 kV13 dc13 pm13 cd13 ct13 : Value}
    {f14 : Addr} {od14 an14 : Option Addr} {sl14 : Array (Option Value)} {oc14 kV14 dc14 pm14 cd14 ct14 : Value}
    {f15 : Addr} {od15 an15 : Option Addr} {sl15 : Array (Option Value)} {oc15 kV15 dc15 pm15 cd15 ct15 : Value}
    {f16 : Addr} {od16 an16 : Option Addr} {sl16 : Array (Option Value)} {oc16 kV16 dc16 pm16 cd16 ct16 : Value}
    {f17 : Addr} {od17 an17 : Option Addr} {sl17 : Array (Option Value)} {oc17 kV17 dc17 pm17 cd17 ct17 : Value}
    {f18 : Addr} {od18 an18 : Option Addr} {sl18 : Array (Option Value)} {oc18 kV18 dc18 pm18 cd18 ct18 : Value}
    {f19 : Addr} {od19 an19 : Option Addr} {sl19 : Array (Option Value)} {oc19 kV19 dc19 pm19 cd19 ct19 : Value}
    {f20 : Addr} {od20 an20 : Option Addr} {sl20 : Array (Option Value)} {oc20 kV20 dc20 pm20 cd20 ct20 : Value}
    {f21 : Addr} {od21 an21 : Option Addr} {sl21 : Array (Option Value)} {oc21 kV21 dc21 pm21 cd21 ct21 : Value}
    {f22 : Addr} {od22 an22 : Option Addr} {sl22 : Array (Option Value)} {oc22 kV22 dc22 pm22 cd22 ct22 : Value}
    {f23 : Addr} {od23 an23 : Option Addr} {sl23 : Array (Option Value)} {oc23 kV23 dc23 pm23 cd23 ct23 : Value}
    {f24 : Addr} {od24 an24 : Option Addr} {sl24 : Array (Option Value)} {oc24 kV24 dc24 pm24 cd24 ct24 : Value}
    {f25 : Addr} {od25 an25 : Option Addr} {sl25 : Array (Option Value)} {oc25 kV25 dc25 pm25 cd25 ct25 : Value}
    {f26 : Addr} {od26 an26 : Option Addr} {sl26 : Array (Option Value)} {oc26 kV26 dc26 pm26 cd26 ct26 : Value}
    {f27 : Addr} {od27 an27 : Option Addr} {sl27 : Array (Option Value)} {oc27 kV27 dc27 pm27 cd27 ct27 : Value}
    {f28 : Addr} {od28 an28 : Option Addr} {sl28 : Array (Option Value)} {oc28 kV28 dc28 pm28 cd28 ct28 : Value}
    {f29 : Addr} {od29 an29 : Option Addr} {sl29 : Array (Option Value)} {oc29 kV29 dc29 pm29 cd29 ct29 : Value}
    {f30 : Addr} {od30 an30 : Option Addr} {sl30 : Array (Option Value)} {oc30 kV30 dc30 pm30 cd30 ct30 : Value}
    {f31 : Addr} {od31 an31 : Option Addr} {sl31 : Array (Option Value)} {oc31 kV31 dc31 pm31 cd31 ct31 : Value}
    {f32 : Addr} {od32 an32 : Option Addr} {sl32 : Array (Option Value)} {oc32 kV32 dc32 pm32 cd32 ct32 : Value}
    {f33 : Addr} {od33 an33 : Option Addr} {sl33 : Array (Option Value)} {oc33 kV33 dc33 pm33 cd33 ct33 : Value}
    {f34 : Addr} {od34 an34 : Option Addr} {sl34 : Array (Option Value)} {oc34 kV34 dc34 pm34 cd34 ct34 : Value}
    {f35 : Addr} {od35 an35 : Option Addr} {sl35 : Array (Option Value)} {oc35 kV35 dc35 pm35 cd35 ct35 : Value}
    {f36 : Addr} {od36 an36 : Option Addr} {sl36 : Array (Option Value)} {oc36 kV36 dc36 pm36 cd36 ct36 : Value}
    {f37 : Addr} {od37 an37 : Option Addr} {sl37 : Array (Option Value)} {oc37 kV37 dc37 pm37 cd37 ct37 : Value}
    {f38 : Addr} {od38 an38 : Option Addr} {sl38 : Array (Option Value)} {oc38 kV38 dc38 pm38 cd38 ct38 : Value}
    {f39 : Addr} {od39 an39 : Option Addr} {sl39 : Array (Option Value)} {oc39 kV39 dc39 pm39 cd39 ct39 : Value}
    {t0 : Tok}
    {x1 : Addr} {xo1 : Option Addr} {xs1 : Array Value} {xn1 : Nat} {xl1 : Array (Option Value)}
    {x2 : Addr} {xo2 : Option Addr} {xs2 : Array Value} {xn2 : Nat} {xl2 : Array (Option Value)}
    {t3 : Tok}
    {t4 : Tok}
    {t5 : Tok}
    {t6 : Tok}
    {t7 : Tok}
    {x8 : Addr} {xo8 : Option Addr} {xs8 : Array Value} {xn8 : Nat} {xl8 : Array (Option Value)}
    {x9 : Addr} {xo9 : Option Addr} {xs9 : Array Value} {xn9 : Nat} {xl9 : Array (Option Value)}
    {x10 : Addr} {xo10 : Option Addr} {xs10 : Array Value} {xn10 : Nat} {xl10 : Array (Option Value)}
    (aC0 : PySem.W.nsIn K mainGlobals "Frame" = some (some (.ref C0)))
    (pg0 : PySem.W.plainGet K C0 Str.empty = true)
    (hd0 : PySem.W.hasDictIn K C0 = true)
    (po0 : PySem.W.plainOver K C0 = true)
    (sa0 : PySem.W.findIn K (.ref C0) "__setattr__" = some (some (.builtin "object.__setattr__")))
    (mk0 : PySem.W.makesIn K C0 = true)
    (kc0 : PySem.W.keepIn K (.ref C0) = true)
    (aC1 : PySem.W.nsIn K mainGlobals "Machine" = some (some (.ref C1)))
    (pg1 : PySem.W.plainGet K C1 Str.empty = true)
    (hd1 : PySem.W.hasDictIn K C1 = true)
    (po1 : PySem.W.plainOver K C1 = true)
    (sa1 : PySem.W.findIn K (.ref C1) "__setattr__" = some (some (.builtin "object.__setattr__")))
    (mk1 : PySem.W.makesIn K C1 = true)
    (kc1 : PySem.W.keepIn K (.ref C1) = true)
    (a0 : PySem.W.nsIn K mainGlobals "_law_pot" = some (some (.ref f0)))
    (l0 : K.lookup f0 = some ⟨oc0, od0, .func (PySem.W.fnOf "_law_pot" "_law_pot" (defArgs s_L_law_pot) (defBody s_L_law_pot) (defScope s_L_law_pot) .none kV0 dc0 pm0 an0 cd0 ct0), sl0⟩)
    (c0 : PySem.W.codeIn K cd0 "_law_pot" = true)
    (k0 : PySem.W.keepIn K (.ref f0) = true)
    (a1 : PySem.W.nsIn K mainGlobals "_law_draw" = some (some (.ref f1)))
    (l1 : K.lookup f1 = some ⟨oc1, od1, .func (PySem.W.fnOf "_law_draw" "_law_draw" (defArgs s_L_law_draw) (defBody s_L_law_draw) (defScope s_L_law_draw) .none kV1 dc1 pm1 an1 cd1 ct1), sl1⟩)
    (c1 : PySem.W.codeIn K cd1 "_law_draw" = true)
    (k1 : PySem.W.keepIn K (.ref f1) = true)
    (a2 : PySem.W.nsIn K mainGlobals "_law_pick" = some (some (.ref f2)))
    (l2 : K.lookup f2 = some ⟨oc2, od2, .func (PySem.W.fnOf "_law_pick" "_law_pick" (defArgs s_L_law_pick) (defBody s_L_law_pick) (defScope s_L_law_pick) .none kV2 dc2 pm2 an2 cd2 ct2), sl2⟩)
    (c2 : PySem.W.codeIn K cd2 "_law_pick" = true)
    (k2 : PySem.W.keepIn K (.ref f2) = true)
    (a3 : PySem.W.nsIn K mainGlobals "_law_leaf" = some (some (.ref f3)))
    (l3 : K.lookup f3 = some ⟨oc3, od3, .func (PySem.W.fnOf "_law_leaf" "_law_leaf" (defArgs s_L_law_leaf) (defBody s_L_law_leaf) (defScope s_L_law_leaf) .none kV3 dc3 pm3 an3 cd3 ct3), sl3⟩)
    (c3 : PySem.W.codeIn K cd3 "_law_leaf" = true)
    (k3 : PySem.W.keepIn K (.ref f3) = true)
    (a4 : PySem.W.nsIn K mainGlobals "_law_drawn" = some (some (.ref f4)))
    (l4 : K.lookup f4 = some ⟨oc4, od4, .func (PySem.W.fnOf "_law_drawn" "_law_drawn" (defArgs s_L_law_drawn) (defBody s_L_law_drawn) (defScope s_L_law_drawn) .none kV4 dc4 pm4 an4 cd4 ct4), sl4⟩)
    (c4 : PySem.W.codeIn K cd4 "_law_drawn" = true)
    (k4 : PySem.W.keepIn K (.ref f4) = true)
    (a5 : PySem.W.nsIn K mainGlobals "_law_laid" = some (some (.ref f5)))
    (l5 : K.lookup f5 = some ⟨oc5, od5, .func (PySem.W.fnOf "_law_laid" "_law_laid" (defArgs s_L_law_laid) (defBody s_L_law_laid) (defScope s_L_law_laid) .none kV5 dc5 pm5 an5 cd5 ct5), sl5⟩)
    (c5 : PySem.W.codeIn K cd5 "_law_laid" = true)
    (k5 : PySem.W.keepIn K (.ref f5) = true)
    (a6 : PySem.W.nsIn K mainGlobals "_law_routine" = some (some (.ref f6)))
    (l6 : K.lookup f6 = some ⟨oc6, od6, .func (PySem.W.fnOf "_law_routine" "_law_routine" (defArgs s_L_law_routine) (defBody s_L_law_routine) (defScope s_L_law_routine) .none kV6 dc6 pm6 an6 cd6 ct6), sl6⟩)
    (c6 : PySem.W.codeIn K cd6 "_law_routine" = true)
    (k6 : PySem.W.keepIn K (.ref f6) = true)
    (a7 : PySem.W.nsIn K mainGlobals "_law_code" = some (some (.ref f7)))
    (l7 : K.lookup f7 = some ⟨oc7, od7, .func (PySem.W.fnOf "_law_code" "_law_code" (defArgs s_L_law_code) (defBody s_L_law_code) (defScope s_L_law_code) .none kV7 dc7 pm7 an7 cd7 ct7), sl7⟩)
    (c7 : PySem.W.codeIn K cd7 "_law_code" = true)
    (k7 : PySem.W.keepIn K (.ref f7) = true)
    (a8 : PySem.W.nsIn K mainGlobals "_law_great" = some (some (.ref f8)))
    (l8 : K.lookup f8 = some ⟨oc8, od8, .func (PySem.W.fnOf "_law_great" "_law_great" (defArgs s_L_law_great) (defBody s_L_law_great) (defScope s_L_law_great) .none kV8 dc8 pm8 an8 cd8 ct8), sl8⟩)
    (c8 : PySem.W.codeIn K cd8 "_law_great" = true)
    (k8 : PySem.W.keepIn K (.ref f8) = true)
    (a9 : PySem.W.nsIn K mainGlobals "_law_called" = some (some (.ref f9)))
    (l9 : K.lookup f9 = some ⟨oc9, od9, .func (PySem.W.fnOf "_law_called" "_law_called" (defArgs s_L_law_called) (defBody s_L_law_called) (defScope s_L_law_called) .none kV9 dc9 pm9 an9 cd9 ct9), sl9⟩)
    (c9 : PySem.W.codeIn K cd9 "_law_called" = true)
    (k9 : PySem.W.keepIn K (.ref f9) = true)
    (a10 : PySem.W.nsIn K mainGlobals "_law_closed" = some (some (.ref f10)))
    (l10 : K.lookup f10 = some ⟨oc10, od10, .func (PySem.W.fnOf "_law_closed" "_law_closed" (defArgs s_L_law_closed) (defBody s_L_law_closed) (defScope s_L_law_closed) .none kV10 dc10 pm10 an10 cd10 ct10), sl10⟩)
    (c10 : PySem.W.codeIn K cd10 "_law_closed" = true)
    (k10 : PySem.W.keepIn K (.ref f10) = true)
    (a11 : PySem.W.nsIn K mainGlobals "_law_opened" = some (some (.ref f11)))
    (l11 : K.lookup f11 = some ⟨oc11, od11, .func (PySem.W.fnOf "_law_opened" "_law_opened" (defArgs s_L_law_opened) (defBody s_L_law_opened) (defScope s_L_law_opened) .none kV11 dc11 pm11 an11 cd11 ct11), sl11⟩)
    (c11 : PySem.W.codeIn K cd11 "_law_opened" = true)
    (k11 : PySem.W.keepIn K (.ref f11) = true)
    (a12 : PySem.W.nsIn K mainGlobals "_law_operated" = some (some (.ref f12)))
    (l12 : K.lookup f12 = some ⟨oc12, od12, .func (PySem.W.fnOf "_law_operated" "_law_operated" (defArgs s_L_law_operated) (defBody s_L_law_operated) (defScope s_L_law_operated) .none kV12 dc12 pm12 an12 cd12 ct12), sl12⟩)
    (c12 : PySem.W.codeIn K cd12 "_law_operated" = true)
    (k12 : PySem.W.keepIn K (.ref f12) = true)
    (a13 : PySem.W.nsIn K mainGlobals "_law_done" = some (some (.ref f13)))
    (l13 : K.lookup f13 = some ⟨oc13, od13, .func (PySem.W.fnOf "_law_done" "_law_done" (defArgs s_L_law_done) (defBody s_L_law_done) (defScope s_L_law_done) .none kV13 dc13 pm13 an13 cd13 ct13), sl13⟩)
    (c13 : PySem.W.codeIn K cd13 "_law_done" = true)
    (k13 : PySem.W.keepIn K (.ref f13) = true)
    (a14 : PySem.W.nsIn K mainGlobals "_law_run" = some (some (.ref f14)))
    (l14 : K.lookup f14 = some ⟨oc14, od14, .func (PySem.W.fnOf "_law_run" "_law_run" (defArgs s_L_law_run) (defBody s_L_law_run) (defScope s_L_law_run) .none kV14 dc14 pm14 an14 cd14 ct14), sl14⟩)
    (c14 : PySem.W.codeIn K cd14 "_law_run" = true)
    (k14 : PySem.W.keepIn K (.ref f14) = true)
    (a15 : PySem.W.nsIn K mainGlobals "is_integer" = some (some (.ref f15)))
    (l15 : K.lookup f15 = some ⟨oc15, od15, .func (PySem.W.fnOf "is_integer" "is_integer" (defArgs s_is_integer) (defBody s_is_integer) (defScope s_is_integer) .none kV15 dc15 pm15 an15 cd15 ct15), sl15⟩)
    (c15 : PySem.W.codeIn K cd15 "is_integer" = true)
    (k15 : PySem.W.keepIn K (.ref f15) = true)
    (a16 : PySem.W.nsIn K mainGlobals "is_count" = some (some (.ref f16)))
    (l16 : K.lookup f16 = some ⟨oc16, od16, .func (PySem.W.fnOf "is_count" "is_count" (defArgs s_is_count) (defBody s_is_count) (defScope s_is_count) .none kV16 dc16 pm16 an16 cd16 ct16), sl16⟩)
    (c16 : PySem.W.codeIn K cd16 "is_count" = true)
    (k16 : PySem.W.keepIn K (.ref f16) = true)
    (a17 : PySem.W.nsIn K mainGlobals "is_instruction" = some (some (.ref f17)))
    (l17 : K.lookup f17 = some ⟨oc17, od17, .func (PySem.W.fnOf "is_instruction" "is_instruction" (defArgs s_is_instruction) (defBody s_is_instruction) (defScope s_is_instruction) .none kV17 dc17 pm17 an17 cd17 ct17), sl17⟩)
    (c17 : PySem.W.codeIn K cd17 "is_instruction" = true)
    (k17 : PySem.W.keepIn K (.ref f17) = true)
    (a18 : PySem.W.nsIn K mainGlobals "is_routine_form" = some (some (.ref f18)))
    (l18 : K.lookup f18 = some ⟨oc18, od18, .func (PySem.W.fnOf "is_routine_form" "is_routine_form" (defArgs s_is_routine_form) (defBody s_is_routine_form) (defScope s_is_routine_form) .none kV18 dc18 pm18 an18 cd18 ct18), sl18⟩)
    (c18 : PySem.W.codeIn K cd18 "is_routine_form" = true)
    (k18 : PySem.W.keepIn K (.ref f18) = true)
    (a19 : PySem.W.nsIn K mainGlobals "stands_behind" = some (some (.ref f19)))
    (l19 : K.lookup f19 = some ⟨oc19, od19, .func (PySem.W.fnOf "stands_behind" "stands_behind" (defArgs s_stands_behind) (defBody s_stands_behind) (defScope s_stands_behind) .none kV19 dc19 pm19 an19 cd19 ct19), sl19⟩)
    (c19 : PySem.W.codeIn K cd19 "stands_behind" = true)
    (k19 : PySem.W.keepIn K (.ref f19) = true)
    (a20 : PySem.W.nsIn K mainGlobals "stands_of" = some (some (.ref f20)))
    (l20 : K.lookup f20 = some ⟨oc20, od20, .func (PySem.W.fnOf "stands_of" "stands_of" (defArgs s_stands_of) (defBody s_stands_of) (defScope s_stands_of) .none kV20 dc20 pm20 an20 cd20 ct20), sl20⟩)
    (c20 : PySem.W.codeIn K cd20 "stands_of" = true)
    (k20 : PySem.W.keepIn K (.ref f20) = true)
    (a21 : PySem.W.nsIn K mainGlobals "is_code_value" = some (some (.ref f21)))
    (l21 : K.lookup f21 = some ⟨oc21, od21, .func (PySem.W.fnOf "is_code_value" "is_code_value" (defArgs s_is_code_value) (defBody s_is_code_value) (defScope s_is_code_value) .none kV21 dc21 pm21 an21 cd21 ct21), sl21⟩)
    (c21 : PySem.W.codeIn K cd21 "is_code_value" = true)
    (k21 : PySem.W.keepIn K (.ref f21) = true)
    (a22 : PySem.W.nsIn K mainGlobals "is_code" = some (some (.ref f22)))
    (l22 : K.lookup f22 = some ⟨oc22, od22, .func (PySem.W.fnOf "is_code" "is_code" (defArgs s_is_code) (defBody s_is_code) (defScope s_is_code) .none kV22 dc22 pm22 an22 cd22 ct22), sl22⟩)
    (c22 : PySem.W.codeIn K cd22 "is_code" = true)
    (k22 : PySem.W.keepIn K (.ref f22) = true)
    (a23 : PySem.W.findIn K (.ref C0) "__init__" = some (some (.ref f23)))
    (i23 : PySem.W.isFn K (.ref f23) = true)
    (l23 : K.lookup f23 = some ⟨oc23, od23, .func (PySem.W.fnOf "__init__" "Frame.__init__" (defArgs s_Frame____init__) (defBody s_Frame____init__) (defScope s_Frame____init__) .none kV23 dc23 pm23 an23 cd23 ct23), sl23⟩)
    (c23 : PySem.W.codeIn K cd23 "Frame.__init__" = true)
    (k23 : PySem.W.keepIn K (.ref f23) = true)
    (a24 : PySem.W.findIn K (.ref C1) "__init__" = some (some (.ref f24)))
    (i24 : PySem.W.isFn K (.ref f24) = true)
    (l24 : K.lookup f24 = some ⟨oc24, od24, .func (PySem.W.fnOf "__init__" "Machine.__init__" (defArgs s_Machine____init__) (defBody s_Machine____init__) (defScope s_Machine____init__) .none kV24 dc24 pm24 an24 cd24 ct24), sl24⟩)
    (c24 : PySem.W.codeIn K cd24 "Machine.__init__" = true)
    (k24 : PySem.W.keepIn K (.ref f24) = true)
    (a25 : PySem.W.findIn K (.ref C1) "call" = some (some (.ref f25)))
    (i25 : PySem.W.isFn K (.ref f25) = true)
    (l25 : K.lookup f25 = some ⟨oc25, od25, .func (PySem.W.fnOf "call" "Machine.call" (defArgs s_Machine__call) (defBody s_Machine__call) (defScope s_Machine__call) .none kV25 dc25 pm25 an25 cd25 ct25), sl25⟩)
    (c25 : PySem.W.codeIn K cd25 "Machine.call" = true)
    (k25 : PySem.W.keepIn K (.ref f25) = true)
    (a26 : PySem.W.findIn K (.ref C1) "close_loop" = some (some (.ref f26)))
    (i26 : PySem.W.isFn K (.ref f26) = true)
    (l26 : K.lookup f26 = some ⟨oc26, od26, .func (PySem.W.fnOf "close_loop" "Machine.close_loop" (defArgs s_Machine__close_loop) (defBody s_Machine__close_loop) (defScope s_Machine__close_loop) .none kV26 dc26 pm26 an26 cd26 ct26), sl26⟩)
    (c26 : PySem.W.codeIn K cd26 "Machine.close_loop" = true)
    (k26 : PySem.W.keepIn K (.ref f26) = true)
    (a27 : PySem.W.findIn K (.ref C1) "come_back" = some (some (.ref f27)))
    (i27 : PySem.W.isFn K (.ref f27) = true)
    (l27 : K.lookup f27 = some ⟨oc27, od27, .func (PySem.W.fnOf "come_back" "Machine.come_back" (defArgs s_Machine__come_back) (defBody s_Machine__come_back) (defScope s_Machine__come_back) .none kV27 dc27 pm27 an27 cd27 ct27), sl27⟩)
    (c27 : PySem.W.codeIn K cd27 "Machine.come_back" = true)
    (k27 : PySem.W.keepIn K (.ref f27) = true)
    (a28 : PySem.W.findIn K (.ref C1) "stop" = some (some (.ref f28)))
    (i28 : PySem.W.isFn K (.ref f28) = true)
    (l28 : K.lookup f28 = some ⟨oc28, od28, .func (PySem.W.fnOf "stop" "Machine.stop" (defArgs s_Machine__stop) (defBody s_Machine__stop) (defScope s_Machine__stop) .none kV28 dc28 pm28 an28 cd28 ct28), sl28⟩)
    (c28 : PySem.W.codeIn K cd28 "Machine.stop" = true)
    (k28 : PySem.W.keepIn K (.ref f28) = true)
    (a29 : PySem.W.nsIn K mainGlobals "operated" = some (some (.ref f29)))
    (l29 : K.lookup f29 = some ⟨oc29, od29, .func (PySem.W.fnOf "operated" "operated" (defArgs s_operated) (defBody s_operated) (defScope s_operated) .none kV29 dc29 pm29 an29 cd29 ct29), sl29⟩)
    (c29 : PySem.W.codeIn K cd29 "operated" = true)
    (k29 : PySem.W.keepIn K (.ref f29) = true)
    (a30 : PySem.W.findIn K (.ref C1) "operate" = some (some (.ref f30)))
    (i30 : PySem.W.isFn K (.ref f30) = true)
    (l30 : K.lookup f30 = some ⟨oc30, od30, .func (PySem.W.fnOf "operate" "Machine.operate" (defArgs s_Machine__operate) (defBody s_Machine__operate) (defScope s_Machine__operate) .none kV30 dc30 pm30 an30 cd30 ct30), sl30⟩)
    (c30 : PySem.W.codeIn K cd30 "Machine.operate" = true)
    (k30 : PySem.W.keepIn K (.ref f30) = true)
    (a31 : PySem.W.findIn K (.ref C1) "do_lone" = some (some (.ref f31)))
    (i31 : PySem.W.isFn K (.ref f31) = true)
    (l31 : K.lookup f31 = some ⟨oc31, od31, .func (PySem.W.fnOf "do_lone" "Machine.do_lone" (defArgs s_Machine__do_lone) (defBody s_Machine__do_lone) (defScope s_Machine__do_lone) .none kV31 dc31 pm31 an31 cd31 ct31), sl31⟩)
    (c31 : PySem.W.codeIn K cd31 "Machine.do_lone" = true)
    (k31 : PySem.W.keepIn K (.ref f31) = true)
    (a32 : PySem.W.findIn K (.ref C1) "open_loop" = some (some (.ref f32)))
    (i32 : PySem.W.isFn K (.ref f32) = true)
    (l32 : K.lookup f32 = some ⟨oc32, od32, .func (PySem.W.fnOf "open_loop" "Machine.open_loop" (defArgs s_Machine__open_loop) (defBody s_Machine__open_loop) (defScope s_Machine__open_loop) .none kV32 dc32 pm32 an32 cd32 ct32), sl32⟩)
    (c32 : PySem.W.codeIn K cd32 "Machine.open_loop" = true)
    (k32 : PySem.W.keepIn K (.ref f32) = true)
    (a33 : PySem.W.findIn K (.ref C1) "step" = some (some (.ref f33)))
    (i33 : PySem.W.isFn K (.ref f33) = true)
    (l33 : K.lookup f33 = some ⟨oc33, od33, .func (PySem.W.fnOf "step" "Machine.step" (defArgs s_Machine__step) (defBody s_Machine__step) (defScope s_Machine__step) .none kV33 dc33 pm33 an33 cd33 ct33), sl33⟩)
    (c33 : PySem.W.codeIn K cd33 "Machine.step" = true)
    (k33 : PySem.W.keepIn K (.ref f33) = true)
    (a34 : PySem.W.nsIn K mainGlobals "run_of" = some (some (.ref f34)))
    (l34 : K.lookup f34 = some ⟨oc34, od34, .func (PySem.W.fnOf "run_of" "run_of" (defArgs s_run_of) (defBody s_run_of) (defScope s_run_of) .none kV34 dc34 pm34 an34 cd34 ct34), sl34⟩)
    (c34 : PySem.W.codeIn K cd34 "run_of" = true)
    (k34 : PySem.W.keepIn K (.ref f34) = true)
    (a35 : PySem.W.nsIn K mainGlobals "want_code" = some (some (.ref f35)))
    (l35 : K.lookup f35 = some ⟨oc35, od35, .func (PySem.W.fnOf "want_code" "want_code" (defArgs s_want_code) (defBody s_want_code) (defScope s_want_code) .none kV35 dc35 pm35 an35 cd35 ct35), sl35⟩)
    (c35 : PySem.W.codeIn K cd35 "want_code" = true)
    (k35 : PySem.W.keepIn K (.ref f35) = true)
    (a36 : PySem.W.nsIn K mainGlobals "run" = some (some (.ref f36)))
    (l36 : K.lookup f36 = some ⟨oc36, od36, .func (PySem.W.fnOf "run" "run" (defArgs s_run) (defBody s_run) (defScope s_run) .none kV36 dc36 pm36 an36 cd36 ct36), sl36⟩)
    (c36 : PySem.W.codeIn K cd36 "run" = true)
    (k36 : PySem.W.keepIn K (.ref f36) = true)
    (a37 : PySem.W.nsIn K mainGlobals "_law_great_right" = some (some (.ref f37)))
    (l37 : K.lookup f37 = some ⟨oc37, od37, .func (PySem.W.fnOf "_law_great_right" "_law_great_right" (defArgs s_L_law_great_right) (defBody s_L_law_great_right) (defScope s_L_law_great_right) .none kV37 dc37 pm37 an37 cd37 ct37), sl37⟩)
    (c37 : PySem.W.codeIn K cd37 "_law_great_right" = true)
    (k37 : PySem.W.keepIn K (.ref f37) = true)
    (a38 : PySem.W.nsIn K mainGlobals "_law_right" = some (some (.ref f38)))
    (l38 : K.lookup f38 = some ⟨oc38, od38, .func (PySem.W.fnOf "_law_right" "_law_right" (defArgs s_L_law_right) (defBody s_L_law_right) (defScope s_L_law_right) .none kV38 dc38 pm38 an38 cd38 ct38), sl38⟩)
    (c38 : PySem.W.codeIn K cd38 "_law_right" = true)
    (k38 : PySem.W.keepIn K (.ref f38) = true)
    (a39 : PySem.W.nsIn K mainGlobals "law" = some (some (.ref f39)))
    (l39 : K.lookup f39 = some ⟨oc39, od39, .func (PySem.W.fnOf "law" "law" (defArgs s_law) (defBody s_law) (defScope s_law) .none kV39 dc39 pm39 an39 cd39 ct39), sl39⟩)
    (c39 : PySem.W.codeIn K cd39 "law" = true)
    (k39 : PySem.W.keepIn K (.ref f39) = true)
    (n0 : PySem.W.findIn K (.ref C1) "frames" = some none)
    (n1 : PySem.W.findIn K (.ref C1) "known" = some none)
    (n2 : PySem.W.findIn K (.ref C0) "loops" = some none)
    (n3 : PySem.W.findIn K (.ref C0) "place" = some none)
    (n4 : PySem.W.findIn K (.ref C0) "position" = some none)
    (n5 : PySem.W.findIn K (.ref C1) "routines" = some none)
    (n6 : PySem.W.findIn K (.ref C0) "stack" = some none)
    (z0 : PySem.W.nsIn K mainGlobals "abs" = some none)
    (z1 : PySem.W.nsIn K mainGlobals "all" = some none)
    (z2 : PySem.W.nsIn K mainGlobals "bool" = some none)
    (z3 : PySem.W.nsIn K mainGlobals "divmod" = some none)
    (z4 : PySem.W.nsIn K mainGlobals "int" = some none)
    (z5 : PySem.W.nsIn K mainGlobals "isinstance" = some none)
    (z6 : PySem.W.nsIn K mainGlobals "len" = some none)
    (z7 : PySem.W.nsIn K mainGlobals "max" = some none)
    (z8 : PySem.W.nsIn K mainGlobals "min" = some none)
    (z9 : PySem.W.nsIn K mainGlobals "range" = some none)
    (z10 : PySem.W.nsIn K mainGlobals "repr" = some none)
    (z11 : PySem.W.nsIn K mainGlobals "str" = some none)
    (z12 : PySem.W.nsIn K mainGlobals "tuple" = some none)
    (q0 : PySem.W.nsIn K mainGlobals "CODE" = some (some (.str "code" t0)))
    (q1 : PySem.W.nsIn K mainGlobals "FAULT_WORDS" = some (some (.ref x1)))
    (r1 : K.lookup x1 = some ⟨.type "tuple", xo1, .seq xs1 xn1, xl1⟩)
    (y1 : xs1.size ≤ sizeLine)
    (v1 : Vals ([.str "none", .str "two", .str "number", .str "nought", .str "great", .str "long", .str "ring"] : List V) xs1.toList)
    (q2 : PySem.W.nsIn K mainGlobals "LONE_WORDS" = some (some (.ref x2)))
    (r2 : K.lookup x2 = some ⟨.type "tuple", xo2, .seq xs2 xn2, xl2⟩)
    (y2 : xs2.size ≤ sizeLine)
    (v2 : Vals ([.str "add", .str "less", .str "times", .str "over", .str "left", .str "below", .str "equal", .str "so far", .str "turn", .str "return"] : List V) xs2.toList)
    (q3 : PySem.W.nsIn K mainGlobals "MOST_INSTRUCTIONS" = some (some (.int (1000) t3)))
    (q4 : PySem.W.nsIn K mainGlobals "MOST_NUMBER" = some (some (.int (1000000000000) t4)))
    (q5 : PySem.W.nsIn K mainGlobals "MOST_ROUTINES" = some (some (.int (400) t5)))
    (q6 : PySem.W.nsIn K mainGlobals "MOST_STEPS" = some (some (.int (60000) t6)))
    (q7 : PySem.W.nsIn K mainGlobals "MOST_TIMES" = some (some (.int (200) t7)))
    (q8 : PySem.W.nsIn K mainGlobals "OPERATIONS" = some (some (.ref x8)))
    (r8 : K.lookup x8 = some ⟨.type "tuple", xo8, .seq xs8 xn8, xl8⟩)
    (y8 : xs8.size ≤ sizeLine)
    (v8 : Vals ([.str "add", .str "less", .str "times", .str "over", .str "left", .str "below", .str "equal"] : List V) xs8.toList)
    (q9 : PySem.W.nsIn K mainGlobals "PUTTING" = some (some (.ref x9)))
    (r9 : K.lookup x9 = some ⟨.type "tuple", xo9, .seq xs9 xn9, xl9⟩)
    (y9 : xs9.size ≤ sizeLine)
    (v9 : Vals ([.str "push", .str "call", .str "so far", .str "turn"] : List V) xs9.toList)
    (q10 : PySem.W.nsIn K mainGlobals "SPOT_WORDS" = some (some (.ref x10)))
    (r10 : K.lookup x10 = some ⟨.type "tuple", xo10, .seq xs10 xn10, xl10⟩)
    (y10 : xs10.size ≤ sizeLine)
    (v10 : Vals ([.str "unless", .str "go", .str "open", .str "close"] : List V) xs10.toList) :
    ∃ (cls : Str → Addr) (fd : FuncData), (∀ (s : Shared) (v : Value), BindsTo s fd ⟨[v], []⟩ [("script", v)]) ∧ ∀ base : Heap, K.In base → base.Ns mainGlobals mg → FnG l.prog w K mg base 19 fa fd ["script"] (spM K cls m_law) := by
  obtain rfl : f39 = fa := by
    have e := hfa.symm.trans (PySem.W.mg_of X G a39)
    cases e
    rfl
  have F0 := fun_mk (st := s_L_law_pot) l0 c0 k0
  have b0 := F0.binds (ps := ["script", "k"]) fun _ _ _ _ _ _ us hl => match us, hl with | [_, _], _ => rfl
  have F1 := fun_mk (st := s_L_law_draw) l1 c1 k1
  have b1 := F1.binds (ps := ["pot", "sides"]) fun _ _ _ _ _ _ us hl => match us, hl with | [_, _], _ => rfl
  have F2 := fun_mk (st := s_L_law_pick) l2 c2 k2
  have b2 := F2.binds (ps := ["pot", "some"]) fun _ _ _ _ _ _ us hl => match us, hl with | [_, _], _ => rfl
  have F3 := fun_mk (st := s_L_law_leaf) l3 c3 k3
  have b3 := F3.binds (ps := ["pot", "inner", "many"]) fun _ _ _ _ _ _ us hl => match us, hl with | [_, _, _], _ => rfl
  have F4 := fun_mk (st := s_L_law_drawn) l4 c4 k4
  have b4 := F4.binds (ps := ["pot", "depth", "inner", "many"]) fun _ _ _ _ _ _ us hl => match us, hl with | [_, _, _, _], _ => rfl
  have F5 := fun_mk (st := s_L_law_laid) l5 c5 k5
  have b5 := F5.binds (ps := ["expression", "spot"]) fun _ _ _ _ _ _ us hl => match us, hl with | [_, _], _ => rfl
  have F6 := fun_mk (st := s_L_law_routine) l6 c6 k6
  have b6 := F6.binds (ps := ["pot", "depth", "many"]) fun _ _ _ _ _ _ us hl => match us, hl with | [_, _, _], _ => rfl
  have F7 := fun_mk (st := s_L_law_code) l7 c7 k7
  have b7 := F7.binds (ps := ["pot"]) fun _ _ _ _ _ _ us hl => match us, hl with | [_], _ => rfl
  have F8 := fun_mk (st := s_L_law_great) l8 c8 k8
  have b8 := F8.binds (ps := ["pot"]) fun _ _ _ _ _ _ us hl => match us, hl with | [_], _ => rfl
  have F9 := fun_mk (st := s_L_law_called) l9 c9 k9
  have b9 := F9.binds (ps := ["frames", "known", "position"]) fun _ _ _ _ _ _ us hl => match us, hl with | [_, _, _], _ => rfl
  have F10 := fun_mk (st := s_L_law_closed) l10 c10 k10
  have b10 := F10.binds (ps := ["frame", "spot"]) fun _ _ _ _ _ _ us hl => match us, hl with | [_, _], _ => rfl
  have F11 := fun_mk (st := s_L_law_opened) l11 c11 k11
  have b11 := F11.binds (ps := ["frame", "spot"]) fun _ _ _ _ _ _ us hl => match us, hl with | [_, _], _ => rfl
  have F12 := fun_mk (st := s_L_law_operated) l12 c12 k12
  have b12 := F12.binds (ps := ["word", "one", "two"]) fun _ _ _ _ _ _ us hl => match us, hl with | [_, _, _], _ => rfl
  have F13 := fun_mk (st := s_L_law_done) l13 c13 k13
  have b13 := F13.binds (ps := ["frame", "instruction"]) fun _ _ _ _ _ _ us hl => match us, hl with | [_, _], _ => rfl
  have F14 := fun_mk (st := s_L_law_run) l14 c14 k14
  have b14 := F14.binds (ps := ["code", "most"]) fun _ _ _ _ _ _ us hl => match us, hl with | [_, _], _ => rfl
  have F15 := fun_mk (st := s_is_integer) l15 c15 k15
  have b15 := F15.binds (ps := ["value"]) fun _ _ _ _ _ _ us hl => match us, hl with | [_], _ => rfl
  have F16 := fun_mk (st := s_is_count) l16 c16 k16
  have b16 := F16.binds (ps := ["value"]) fun _ _ _ _ _ _ us hl => match us, hl with | [_], _ => rfl
  have F17 := fun_mk (st := s_is_instruction) l17 c17 k17
  have b17 := F17.binds (ps := ["value", "spots", "routines"]) fun _ _ _ _ _ _ us hl => match us, hl with | [_, _, _], _ => rfl
  have F18 := fun_mk (st := s_is_routine_form) l18 c18 k18
  have b18 := F18.binds (ps := ["value", "routines"]) fun _ _ _ _ _ _ us hl => match us, hl with | [_, _], _ => rfl
  have F19 := fun_mk (st := s_stands_behind) l19 c19 k19
  have b19 := F19.binds (ps := ["instruction", "at", "height", "loops"]) fun _ _ _ _ _ _ us hl => match us, hl with | [_, _, _, _], _ => rfl
  have F20 := fun_mk (st := s_stands_of) l20 c20 k20
  have b20 := F20.binds (ps := ["routine"]) fun _ _ _ _ _ _ us hl => match us, hl with | [_], _ => rfl
  have F21 := fun_mk (st := s_is_code_value) l21 c21 k21
  have b21 := F21.binds (ps := ["value"]) fun _ _ _ _ _ _ us hl => match us, hl with | [_], _ => rfl
  have F22 := fun_mk (st := s_is_code) l22 c22 k22
  have b22 := F22.binds (ps := ["value"]) fun _ _ _ _ _ _ us hl => match us, hl with | [_], _ => rfl
  have F23 := fun_mk (st := s_Frame____init__) l23 c23 k23
  have b23 := F23.binds (ps := ["self", "position"]) fun _ _ _ _ _ _ us hl => match us, hl with | [_, _], _ => rfl
  have F24 := fun_mk (st := s_Machine____init__) l24 c24 k24
  have b24 := F24.binds (ps := ["self", "code"]) fun _ _ _ _ _ _ us hl => match us, hl with | [_, _], _ => rfl
  have F25 := fun_mk (st := s_Machine__call) l25 c25 k25
  have b25 := F25.binds (ps := ["self", "position"]) fun _ _ _ _ _ _ us hl => match us, hl with | [_, _], _ => rfl
  have F26 := fun_mk (st := s_Machine__close_loop) l26 c26 k26
  have b26 := F26.binds (ps := ["self", "spot"]) fun _ _ _ _ _ _ us hl => match us, hl with | [_, _], _ => rfl
  have F27 := fun_mk (st := s_Machine__come_back) l27 c27 k27
  have b27 := F27.binds (ps := ["self"]) fun _ _ _ _ _ _ us hl => match us, hl with | [_], _ => rfl
  have F28 := fun_mk (st := s_Machine__stop) l28 c28 k28
  have b28 := F28.binds (ps := ["self", "word"]) fun _ _ _ _ _ _ us hl => match us, hl with | [_, _], _ => rfl
  have F29 := fun_mk (st := s_operated) l29 c29 k29
  have b29 := F29.binds (ps := ["word", "one", "two"]) fun _ _ _ _ _ _ us hl => match us, hl with | [_, _, _], _ => rfl
  have F30 := fun_mk (st := s_Machine__operate) l30 c30 k30
  have b30 := F30.binds (ps := ["self", "word"]) fun _ _ _ _ _ _ us hl => match us, hl with | [_, _], _ => rfl
  have F31 := fun_mk (st := s_Machine__do_lone) l31 c31 k31
  have b31 := F31.binds (ps := ["self", "word"]) fun _ _ _ _ _ _ us hl => match us, hl with | [_, _], _ => rfl
  have F32 := fun_mk (st := s_Machine__open_loop) l32 c32 k32
  have b32 := F32.binds (ps := ["self", "spot"]) fun _ _ _ _ _ _ us hl => match us, hl with | [_, _], _ => rfl
  have F33 := fun_mk (st := s_Machine__step) l33 c33 k33
  have b33 := F33.binds (ps := ["self"]) fun _ _ _ _ _ _ us hl => match us, hl with | [_], _ => rfl
  have F34 := fun_mk (st := s_run_of) l34 c34 k34
  have b34 := F34.binds (ps := ["code", "many"]) fun _ _ _ _ _ _ us hl => match us, hl with | [_, _], _ => rfl
  have F35 := fun_mk (st := s_want_code) l35 c35 k35
  have b35 := F35.binds (ps := ["value"]) fun _ _ _ _ _ _ us hl => match us, hl with | [_], _ => rfl
  have F36 := fun_mk (st := s_run) l36 c36 k36
  have b36 := F36.binds (ps := ["code", "many"]) fun _ _ _ _ _ _ us hl => match us, hl with | [_, _], _ => rfl
  have F37 := fun_mk (st := s_L_law_great_right) l37 c37 k37
  have b37 := F37.binds (ps := ["pot"]) fun _ _ _ _ _ _ us hl => match us, hl with | [_], _ => rfl
  have F38 := fun_mk (st := s_L_law_right) l38 c38 k38
  have b38 := F38.binds (ps := ["pot"]) fun _ _ _ _ _ _ us hl => match us, hl with | [_], _ => rfl
  have F39 := fun_mk (st := s_law) l39 c39 k39
  have b39 := F39.binds (ps := ["script"]) fun _ _ _ _ _ _ us hl => match us, hl with | [_], _ => rfl
  let T : Tx K mg := {
    a_L_law_pot := f0
    d_L_law_pot := _
    F_L_law_pot := F0
    b_L_law_pot := b0
    m_L_law_pot := PySem.W.mg_of X G a0
    a_L_law_draw := f1
    d_L_law_draw := _
    F_L_law_draw := F1
    b_L_law_draw := b1
    m_L_law_draw := PySem.W.mg_of X G a1
    a_L_law_pick := f2
    d_L_law_pick := _
    F_L_law_pick := F2
    b_L_law_pick := b2
    m_L_law_pick := PySem.W.mg_of X G a2
    a_L_law_leaf := f3
    d_L_law_leaf := _
    F_L_law_leaf := F3
    b_L_law_leaf := b3
    m_L_law_leaf := PySem.W.mg_of X G a3
    a_L_law_drawn := f4
    d_L_law_drawn := _
    F_L_law_drawn := F4
    b_L_law_drawn := b4
    m_L_law_drawn := PySem.W.mg_of X G a4
    a_L_law_laid := f5
    d_L_law_laid := _
    F_L_law_laid := F5
    b_L_law_laid := b5
    m_L_law_laid := PySem.W.mg_of X G a5
    a_L_law_routine := f6
    d_L_law_routine := _
    F_L_law_routine := F6
    b_L_law_routine := b6
    m_L_law_routine := PySem.W.mg_of X G a6
    a_L_law_code := f7
    d_L_law_code := _
    F_L_law_code := F7
    b_L_law_code := b7
    m_L_law_code := PySem.W.mg_of X G a7
    a_L_law_great := f8
    d_L_law_great := _
    F_L_law_great := F8
    b_L_law_great := b8
    m_L_law_great := PySem.W.mg_of X G a8
    a_L_law_called := f9
    d_L_law_called := _
    F_L_law_called := F9
    b_L_law_called := b9
    m_L_law_called := PySem.W.mg_of X G a9
    a_L_law_closed := f10
    d_L_law_closed := _
    F_L_law_closed := F10
    b_L_law_closed := b10
    m_L_law_closed := PySem.W.mg_of X G a10
    a_L_law_opened := f11
    d_L_law_opened := _
    F_L_law_opened := F11
    b_L_law_opened := b11
    m_L_law_opened := PySem.W.mg_of X G a11
    a_L_law_operated := f12
    d_L_law_operated := _
    F_L_law_operated := F12
    b_L_law_operated := b12
    m_L_law_operated := PySem.W.mg_of X G a12
    a_L_law_done := f13
    d_L_law_done := _
    F_L_law_done := F13
    b_L_law_done := b13
    m_L_law_done := PySem.W.mg_of X G a13
    a_L_law_run := f14
    d_L_law_run := _
    F_L_law_run := F14
    b_L_law_run := b14
    m_L_law_run := PySem.W.mg_of X G a14
    a_is_integer := f15
    d_is_integer := _
    F_is_integer := F15
    b_is_integer := b15
    m_is_integer := PySem.W.mg_of X G a15
    a_is_count := f16
    d_is_count := _
    F_is_count := F16
    b_is_count := b16
    m_is_count := PySem.W.mg_of X G a16
    a_is_instruction := f17
    d_is_instruction := _
    F_is_instruction := F17
    b_is_instruction := b17
    m_is_instruction := PySem.W.mg_of X G a17
    a_is_routine_form := f18
    d_is_routine_form := _
    F_is_routine_form := F18
    b_is_routine_form := b18
    m_is_routine_form := PySem.W.mg_of X G a18
    a_stands_behind := f19
    d_stands_behind := _
    F_stands_behind := F19
    b_stands_behind := b19
    m_stands_behind := PySem.W.mg_of X G a19
    a_stands_of := f20
    d_stands_of := _
    F_stands_of := F20
    b_stands_of := b20
    m_stands_of := PySem.W.mg_of X G a20
    a_is_code_value := f21
    d_is_code_value := _
    F_is_code_value := F21
    b_is_code_value := b21
    m_is_code_value := PySem.W.mg_of X G a21
    a_is_code := f22
    d_is_code := _
    F_is_code := F22
    b_is_code := b22
    m_is_code := PySem.W.mg_of X G a22
    a_Frame____init__ := f23
    d_Frame____init__ := _
    F_Frame____init__ := F23
    b_Frame____init__ := b23
    a_Machine____init__ := f24
    d_Machine____init__ := _
    F_Machine____init__ := F24
    b_Machine____init__ := b24
    a_Machine__call := f25
    d_Machine__call := _
    F_Machine__call := F25
    b_Machine__call := b25
    a_Machine__close_loop := f26
    d_Machine__close_loop := _
    F_Machine__close_loop := F26
    b_Machine__close_loop := b26
    a_Machine__come_back := f27
    d_Machine__come_back := _
    F_Machine__come_back := F27
    b_Machine__come_back := b27
    a_Machine__stop := f28
    d_Machine__stop := _
    F_Machine__stop := F28
    b_Machine__stop := b28
    a_operated := f29
    d_operated := _
    F_operated := F29
    b_operated := b29
    m_operated := PySem.W.mg_of X G a29
    a_Machine__operate := f30
    d_Machine__operate := _
    F_Machine__operate := F30
    b_Machine__operate := b30
    a_Machine__do_lone := f31
    d_Machine__do_lone := _
    F_Machine__do_lone := F31
    b_Machine__do_lone := b31
    a_Machine__open_loop := f32
    d_Machine__open_loop := _
    F_Machine__open_loop := F32
    b_Machine__open_loop := b32
    a_Machine__step := f33
    d_Machine__step := _
    F_Machine__step := F33
    b_Machine__step := b33
    a_run_of := f34
    d_run_of := _
    F_run_of := F34
    b_run_of := b34
    m_run_of := PySem.W.mg_of X G a34
    a_want_code := f35
    d_want_code := _
    F_want_code := F35
    b_want_code := b35
    m_want_code := PySem.W.mg_of X G a35
    a_run := f36
    d_run := _
    F_run := F36
    b_run := b36
    m_run := PySem.W.mg_of X G a36
    a_L_law_great_right := f37
    d_L_law_great_right := _
    F_L_law_great_right := F37
    b_L_law_great_right := b37
    m_L_law_great_right := PySem.W.mg_of X G a37
    a_L_law_right := f38
    d_L_law_right := _
    F_L_law_right := F38
    b_L_law_right := b38
    m_L_law_right := PySem.W.mg_of X G a38
    a_law := f39
    d_law := _
    F_law := F39
    b_law := b39
    m_law := PySem.W.mg_of X G a39
    cls := clsOf [("Frame", C0), ("Machine", C1)]
    c_Frame := ⟨pg0, hd0, po0, sa0⟩
    mc_Frame := PySem.W.mg_of X G aC0
    mk_Frame := ⟨mk0, a23, i23, kc0⟩
    c_Machine := ⟨pg1, hd1, po1, sa1⟩
    mc_Machine := PySem.W.mg_of X G aC1
    mk_Machine := ⟨mk1, a24, i24, kc1⟩
    me_Machine__call := ⟨a25, i25, k25⟩
    me_Machine__close_loop := ⟨a26, i26, k26⟩
    me_Machine__come_back := ⟨a27, i27, k27⟩
    me_Machine__stop := ⟨a28, i28, k28⟩
    me_Machine__operate := ⟨a30, i30, k30⟩
    me_Machine__do_lone := ⟨a31, i31, k31⟩
    me_Machine__open_loop := ⟨a32, i32, k32⟩
    me_Machine__step := ⟨a33, i33, k33⟩
    f_frames := fun c h => (List.mem_cons.mp h).elim (fun e => by subst e; exact ⟨⟨pg1, hd1, po1, sa1⟩, n0⟩) fun h => nomatch h
    f_known := fun c h => (List.mem_cons.mp h).elim (fun e => by subst e; exact ⟨⟨pg1, hd1, po1, sa1⟩, n1⟩) fun h => nomatch h
    f_loops := fun c h => (List.mem_cons.mp h).elim (fun e => by subst e; exact ⟨⟨pg0, hd0, po0, sa0⟩, n2⟩) fun h => nomatch h
    f_place := fun c h => (List.mem_cons.mp h).elim (fun e => by subst e; exact ⟨⟨pg0, hd0, po0, sa0⟩, n3⟩) fun h => nomatch h
    f_position := fun c h => (List.mem_cons.mp h).elim (fun e => by subst e; exact ⟨⟨pg0, hd0, po0, sa0⟩, n4⟩) fun h => nomatch h
    f_routines := fun c h => (List.mem_cons.mp h).elim (fun e => by subst e; exact ⟨⟨pg1, hd1, po1, sa1⟩, n5⟩) fun h => nomatch h
    f_stack := fun c h => (List.mem_cons.mp h).elim (fun e => by subst e; exact ⟨⟨pg0, hd0, po0, sa0⟩, n6⟩) fun h => nomatch h
    z_abs := PySem.W.mg_none_of X G z0
    z_all := PySem.W.mg_none_of X G z1
    z_bool := PySem.W.mg_none_of X G z2
    z_divmod := PySem.W.mg_none_of X G z3
    z_int := PySem.W.mg_none_of X G z4
    z_isinstance := PySem.W.mg_none_of X G z5
    z_len := PySem.W.mg_none_of X G z6
    z_max := PySem.W.mg_none_of X G z7
    z_min := PySem.W.mg_none_of X G z8
    z_range := PySem.W.mg_none_of X G z9
    z_repr := PySem.W.mg_none_of X G z10
    z_str := PySem.W.mg_none_of X G z11
    z_tuple := PySem.W.mg_none_of X G z12
    t_CODE := t0
    m_CODE := PySem.W.mg_of X G q0
    a_FAULT_WORDS := x1
    m_FAULT_WORDS := PySem.W.mg_of X G q1
    v_FAULT_WORDS := tup_const r1 y1 v1 (fun _ _ => .cons (.str _) (.cons (.str _) (.cons (.str _) (.cons (.str _) (.cons (.str _) (.cons (.str _) (.cons (.str _) (.nil))))))))
    a_LONE_WORDS := x2
    m_LONE_WORDS := PySem.W.mg_of X G q2
    v_LONE_WORDS := tup_const r2 y2 v2 (fun _ _ => .cons (.str _) (.cons (.str _) (.cons (.str _) (.cons (.str _) (.cons (.str _) (.cons (.str _) (.cons (.str _) (.cons (.str _) (.cons (.str _) (.cons (.str _) (.nil)))))))))))
    t_MOST_INSTRUCTIONS := t3
    m_MOST_INSTRUCTIONS := PySem.W.mg_of X G q3
    t_MOST_NUMBER := t4
    m_MOST_NUMBER := PySem.W.mg_of X G q4
    t_MOST_ROUTINES := t5
    m_MOST_ROUTINES := PySem.W.mg_of X G q5
    t_MOST_STEPS := t6
    m_MOST_STEPS := PySem.W.mg_of X G q6
    t_MOST_TIMES := t7
    m_MOST_TIMES := PySem.W.mg_of X G q7
    a_OPERATIONS := x8
    m_OPERATIONS := PySem.W.mg_of X G q8
    v_OPERATIONS := tup_const r8 y8 v8 (fun _ _ => .cons (.str _) (.cons (.str _) (.cons (.str _) (.cons (.str _) (.cons (.str _) (.cons (.str _) (.cons (.str _) (.nil))))))))
    a_PUTTING := x9
    m_PUTTING := PySem.W.mg_of X G q9
    v_PUTTING := tup_const r9 y9 v9 (fun _ _ => .cons (.str _) (.cons (.str _) (.cons (.str _) (.cons (.str _) (.nil)))))
    a_SPOT_WORDS := x10
    m_SPOT_WORDS := PySem.W.mg_of X G q10
    v_SPOT_WORDS := tup_const r10 y10 v10 (fun _ _ => .cons (.str _) (.cons (.str _) (.cons (.str _) (.cons (.str _) (.nil)))))
    kb_run_permSw := fun s ws h => match ws, h with | [_, _], _ => .of_eq rfl }
  exact ⟨T.cls, T.d_law, fun s v => .of_eq rfl, fun base _ _ => ok_law T⟩
end PP

/-! The plain layer: how the mirror functions compute, as rewriting rules. -/
namespace MM
open PySem L2
theorem R.bcongr {β γ : Type} {r r' : R β} (k : β → Store → R γ) (h : r = r') : r.bind k = r'.bind k := by rw [h]
theorem fitsN (n : Nat) : fits n = decide (n ≤ 16000000) := rfl
def seqK (n : MS) : Fl → Store → R Fl
  | .nx ρ1, S1 => n ρ1 S1
  | f, S1 => .ok f S1
/-- what a def gives from how its body ends -/
def endK : Fl → Store → R D
  | .nx _, S1 => .ok .non S1
  | .rt d, S1 => .ok d S1
  | _, _ => .bad
/-! the rest of each step, by name (so that rewriting does not look into it) -/
def dropK (ρ : Env) : D → Store → R Fl := fun _ S1 => .ok (.nx ρ) S1
def retK : D → Store → R Fl := fun d S1 => .ok (.rt d) S1
def ifsK (m n : MS) (ρ : Env) : Bool → Store → R Fl := fun b S1 => if b = true then m ρ S1 else n ρ S1
def asgK2 : Env → Store → R Fl := fun ρ1 S2 => .ok (.nx ρ1) S2
def asgK (g : MG) (ρ : Env) : D → Store → R Fl := fun d S1 => (g d ρ S1).bind asgK2
def parK2 (i j : Nat) (ρ : Env) (d : D) : D → Store → R Fl := fun e S2 => .ok (.nx ((ρ.set i (some d)).set j (some e))) S2
def parK (i j : Nat) (b : ME) (ρ : Env) : D → Store → R Fl := fun d S1 => (b ρ S1).bind (parK2 i j ρ d)
def keepK (ρ : Env) : Unit → Store → R Env := fun _ S3 => .ok ρ S3
def gsubK2 (o d : D) (ρ : Env) : D → Store → R Env := fun i S2 => (setIx o i d S2).bind (keepK ρ)
def gsubK (b : ME) (d : D) (ρ : Env) : D → Store → R Env := fun o S1 => (b ρ S1).bind (gsubK2 o d ρ)
def gconsK (gs : MGs) (ds : List D) : Env → Store → R Env := fun ρ1 S1 => gs ds ρ1 S1
def opK (g : D → D → Store → R D) (b : ME) (ρ : Env) : D → Store → R D := fun d S1 => (b ρ S1).bind (g d)
def andK (u : MT) (ρ : Env) : Bool → Store → R Bool := fun b S1 => if b = true then u ρ S1 else .ok false S1
def orK (u : MT) (ρ : Env) : Bool → Store → R Bool := fun b S1 => if b = true then .ok true S1 else u ρ S1
def notK : Bool → Store → R Bool := fun b S1 => .ok (!b) S1
def andEK2 (b : ME) (ρ : Env) : Bool → Store → R D := fun k S1 => if k = true then b ρ S1 else .ok (.bl false) S1
def andEK (b : ME) (ρ : Env) : D → Store → R D := fun d S0 => (asB d S0).bind (andEK2 b ρ)
def orEK2 (b : ME) (ρ : Env) : Bool → Store → R D := fun k S1 => if k = true then .ok (.bl true) S1 else b ρ S1
def orEK (b : ME) (ρ : Env) : D → Store → R D := fun d S0 => (asB d S0).bind (orEK2 b ρ)
def notEK2 : Bool → Store → R D := fun b S1 => .ok (.bl (!b)) S1
def notEK : D → Store → R D := fun d S0 => (asB d S0).bind notEK2
def ifK (a b : ME) (ρ : Env) : Bool → Store → R D := fun k S1 => if k = true then a ρ S1 else b ρ S1
def consK2 (d : D) : List D → Store → R (List D) := fun ds S2 => .ok (d :: ds) S2
def consK (as : MAs) (ρ : Env) : D → Store → R (List D) := fun d S1 => (as ρ S1).bind (consK2 d)
def tupK : List D → Store → R D := fun ds S1 => if fits ds.length = true then .ok (.tup ds) S1 else .bad
def fitsK : List D → Store → R (List D) := fun ds S1 => if fits ds.length = true then .ok ds S1 else .bad
def newK : List D → Store → R D := fun ds S1 => .ok (.ref S1.next) (S1.push (.lst ds))
def methK3 (f : List D → Store → R D) (o : D) : List D → Store → R D := fun ds S2 => f (o :: ds) S2
def methK2 (f : List D → Store → R D) (as : MAs) (ρ : Env) : D → Store → R D := fun o S1 => (as ρ S1).bind (methK3 f o)
def methK (cn nm : Str) (f : List D → Store → R D) (as : MAs) (ρ : Env) : D → Store → R D := fun d S0 => (asIns cn nm d S0).bind (methK2 f as ρ)
def makeK2 (n : Nat) : D → Store → R D := fun d S2 => match d with
  | .non => .ok (.ref n) S2
  | _ => .bad
def makeK (cn : Str) (f : List D → Store → R D) : List D → Store → R D := fun ds S1 => (f (.ref S1.next :: ds) (S1.push (.ins cn []))).bind (makeK2 S1.next)
def bmK (chk : D → Store → Bool) (g : D → List D → Store → R D) (as : MAs) (ρ : Env) : D → Store → R D := fun o S1 => if chk o S1 = true then (as ρ S1).bind (g o) else .bad
def gfldK (cs : List Str) (f : Str) (d : D) (ρ : Env) : D → Store → R Env := fun o S1 => (setF cs f d o S1).bind (keepK ρ)
def chainK4 (g' : D → D → Store → R D) (c : ME) (ρ : Env) (e : D) : Bool → Store → R D := fun k S4 => if k = true then (c ρ S4).bind (g' e) else .ok (.bl false) S4
def chainK3 (g' : D → D → Store → R D) (c : ME) (ρ : Env) (e : D) : D → Store → R D := fun z S3 => (asB z S3).bind (chainK4 g' c ρ e)
def chainK2 (g g' : D → D → Store → R D) (c : ME) (ρ : Env) (d : D) : D → Store → R D := fun e S2 => (g d e S2).bind (chainK3 g' c ρ e)
def chainK (g g' : D → D → Store → R D) (b c : ME) (ρ : Env) : D → Store → R D := fun d S1 => (b ρ S1).bind (chainK2 g g' c ρ d)
def slK3 (d : D) (l : Option Int) : Option Int → Store → R D := fun h S3 => getSl d l h S3
def slK2 (mh : MO) (ρ : Env) (d : D) : Option Int → Store → R D := fun l S2 => (mh ρ S2).bind (slK3 d l)
def slK (ml mh : MO) (ρ : Env) : D → Store → R D := fun d S1 => (ml ρ S1).bind (slK2 mh ρ d)
def rng2K (b : ME) (ρ : Env) : D → Store → R IT := fun d S1 => (b ρ S1).bind (asRng2 d)
section
variable {ρ : Env} {S : Store} {d e : D} {a b c : ME} {as : MAs} {n m : MS} {t u : MT} {g : MG} {i j : Nat} {gs : MGs} {o : Option D}
theorem q_k_drop : dropK ρ d S = .ok (.nx ρ) S := rfl
theorem q_k_ret : retK d S = .ok (.rt d) S := rfl
theorem q_k_ifs {b : Bool} : ifsK m n ρ b S = if b = true then m ρ S else n ρ S := rfl
theorem q_k_asg2 : asgK2 ρ S = .ok (.nx ρ) S := rfl
theorem q_k_asg : asgK g ρ d S = (g d ρ S).bind asgK2 := rfl
theorem q_k_par2 : parK2 i j ρ d e S = .ok (.nx ((ρ.set i (some d)).set j (some e))) S := rfl
theorem q_k_par : parK i j b ρ d S = (b ρ S).bind (parK2 i j ρ d) := rfl
theorem q_k_keep {u : Unit} : keepK ρ u S = .ok ρ S := rfl
theorem q_k_gsub2 {o d i : D} : gsubK2 o d ρ i S = (setIx o i d S).bind (keepK ρ) := rfl
theorem q_k_gsub {o d : D} : gsubK b d ρ o S = (b ρ S).bind (gsubK2 o d ρ) := rfl
theorem q_k_gcons {ds : List D} : gconsK gs ds ρ S = gs ds ρ S := rfl
theorem q_k_op {g : D → D → Store → R D} : opK g b ρ d S = (b ρ S).bind (g d) := rfl
theorem q_k_and {b : Bool} : andK u ρ b S = if b = true then u ρ S else .ok false S := rfl
theorem q_k_or {b : Bool} : orK u ρ b S = if b = true then .ok true S else u ρ S := rfl
theorem q_k_not {b : Bool} : notK b S = .ok (!b) S := rfl
theorem q_k_andE2 {k : Bool} : andEK2 b ρ k S = if k = true then b ρ S else .ok (.bl false) S := rfl
theorem q_k_andE : andEK b ρ d S = (asB d S).bind (andEK2 b ρ) := rfl
theorem q_k_orE2 {k : Bool} : orEK2 b ρ k S = if k = true then .ok (.bl true) S else b ρ S := rfl
theorem q_k_orE : orEK b ρ d S = (asB d S).bind (orEK2 b ρ) := rfl
theorem q_k_notE2 {k : Bool} : notEK2 k S = .ok (.bl (!k)) S := rfl
theorem q_k_notE : notEK d S = (asB d S).bind notEK2 := rfl
theorem q_k_if {k : Bool} : ifK a b ρ k S = if k = true then a ρ S else b ρ S := rfl
theorem q_k_cons2 {ds : List D} : consK2 d ds S = .ok (d :: ds) S := rfl
theorem q_k_cons : consK as ρ d S = (as ρ S).bind (consK2 d) := rfl
theorem q_k_tup {ds : List D} : tupK ds S = if fits ds.length = true then .ok (.tup ds) S else .bad := rfl
theorem q_k_fits {ds : List D} : fitsK ds S = if fits ds.length = true then .ok ds S else .bad := rfl
theorem q_k_new {ds : List D} : newK ds S = .ok (.ref S.next) (S.push (.lst ds)) := rfl
theorem q_k_meth3 {f : List D → Store → R D} {o : D} {ds : List D} : methK3 f o ds S = f (o :: ds) S := rfl
theorem q_k_meth2 {f : List D → Store → R D} {o : D} : methK2 f as ρ o S = (as ρ S).bind (methK3 f o) := rfl
theorem q_k_meth {cn nm : Str} {f : List D → Store → R D} : methK cn nm f as ρ d S = (asIns cn nm d S).bind (methK2 f as ρ) := rfl
theorem q_k_make2 {k : Nat} : makeK2 k .non S = .ok (.ref k) S := rfl
theorem q_k_make {cn : Str} {f : List D → Store → R D} {ds : List D} : makeK cn f ds S = (f (.ref S.next :: ds) (S.push (.ins cn []))).bind (makeK2 S.next) := rfl
theorem q_k_bm {chk : D → Store → Bool} {g : D → List D → Store → R D} {o : D} : bmK chk g as ρ o S = if chk o S = true then (as ρ S).bind (g o) else .bad := rfl
theorem q_k_gfld {cs : List Str} {f : Str} {o : D} : gfldK cs f d ρ o S = (setF cs f d o S).bind (keepK ρ) := rfl
theorem q_k_chain4 {g' : D → D → Store → R D} {k : Bool} : chainK4 g' c ρ e k S = if k = true then (c ρ S).bind (g' e) else .ok (.bl false) S := rfl
theorem q_k_chain3 {g' : D → D → Store → R D} {z : D} : chainK3 g' c ρ e z S = (asB z S).bind (chainK4 g' c ρ e) := rfl
theorem q_k_chain2 {g g' : D → D → Store → R D} : chainK2 g g' c ρ d e S = (g d e S).bind (chainK3 g' c ρ e) := rfl
theorem q_k_chain {g g' : D → D → Store → R D} : chainK g g' b c ρ d S = (b ρ S).bind (chainK2 g g' c ρ d) := rfl
theorem q_k_sl3 {l h : Option Int} : slK3 d l h S = getSl d l h S := rfl
theorem q_k_sl2 {mh : MO} {l : Option Int} : slK2 mh ρ d l S = (mh ρ S).bind (slK3 d l) := rfl
theorem q_k_sl {ml mh : MO} : slK ml mh ρ d S = (ml ρ S).bind (slK2 mh ρ d) := rfl
theorem q_k_rng2 : rng2K b ρ d S = (b ρ S).bind (asRng2 d) := by rfl
theorem q_e_seq : mSeq m n ρ S = (m ρ S).bind (seqK n) := by
  unfold mSeq
  congr 1
  funext f S1
  cases f <;> rfl
theorem q_e_seqK : seqK n (.nx ρ) S = n ρ S := rfl
theorem q_e_seqKr : seqK n (.rt d) S = .ok (.rt d) S := rfl
theorem q_e_def {k N : Nat} {ds : List D} (h : ds.length = k) : mDef k N m ds S = (m (ds.map some ++ List.replicate (N - k) none) S).bind endK := by
  unfold mDef
  rw [if_pos h]
  congr 1
  funext f S1
  cases f <;> rfl
theorem q_e_end : endK (.nx ρ) S = .ok .non S := rfl
theorem q_e_endr : endK (.rt d) S = .ok d S := rfl
theorem q_e_drop : mDrop a ρ S = (a ρ S).bind (dropK ρ) := by rfl
theorem q_e_ret : mRet a ρ S = (a ρ S).bind retK := by rfl
theorem q_e_ifs : mIfS t m n ρ S = (t ρ S).bind (ifsK m n ρ) := by rfl
theorem q_e_asg : mAsg a g ρ S = (a ρ S).bind (asgK g ρ) := by rfl
theorem q_e_next : mNext ρ S = .ok (.nx ρ) S := rfl
theorem q_e_par : mPar i j a b ρ S = (a ρ S).bind (parK i j b ρ) := by rfl
theorem q_e_gn : mGN i d ρ S = .ok (ρ.set i (some d)) S := rfl
theorem q_e_gsub : mGSub a b d ρ S = (a ρ S).bind (gsubK b d ρ) := by rfl
theorem q_e_gnil : mGNil [] ρ S = .ok ρ S := rfl
theorem q_e_gcons {ds : List D} : mGCons g gs (d :: ds) ρ S = (g d ρ S).bind (gconsK gs ds) := by rfl
theorem q_e_gt {n : Nat} {ds : List D} : mGT n gs (.tup ds) ρ S = if ds.length = n then gs ds ρ S else .bad := rfl
theorem q_e_c : mC d ρ S = .ok d S := rfl
theorem q_e_op {g : D → D → Store → R D} : mOp g a b ρ S = (a ρ S).bind (opK g b ρ) := by rfl
theorem q_e_un {g : D → Store → R D} : mUn g a ρ S = (a ρ S).bind g := by rfl
theorem q_e_b : mB a ρ S = (a ρ S).bind asB := rfl
theorem q_e_asB {k : Bool} : asB (.bl k) S = .ok k S := rfl
theorem q_e_and : mAndT t u ρ S = (t ρ S).bind (andK u ρ) := by rfl
theorem q_e_or : mOrT t u ρ S = (t ρ S).bind (orK u ρ) := by rfl
theorem q_e_not : mNotT t ρ S = (t ρ S).bind notK := by rfl
theorem q_e_andE : mAnd a b ρ S = (a ρ S).bind (andEK b ρ) := by rfl
theorem q_e_orE : mOr a b ρ S = (a ρ S).bind (orEK b ρ) := by rfl
theorem q_e_notE : mNot a ρ S = (a ρ S).bind notEK := by rfl
theorem q_e_if : mIf t a b ρ S = (t ρ S).bind (ifK a b ρ) := by rfl
theorem q_e_nil : mNil ρ S = .ok [] S := rfl
theorem q_e_cons : mCons a as ρ S = (a ρ S).bind (consK as ρ) := by rfl
theorem q_e_tup : mTup as ρ S = (as ρ S).bind tupK := by rfl
theorem q_e_fits : mFits as ρ S = (as ρ S).bind fitsK := by rfl
theorem q_e_new : mNew as ρ S = (as ρ S).bind newK := by rfl
theorem q_e_dnew : mDNew ρ S = .ok (.ref S.next) (S.push (.dct [])) := rfl
theorem q_e_call {f : List D → Store → R D} : mCall f as ρ S = (as ρ S).bind f := rfl
theorem q_e_meth {cn nm : Str} {f : List D → Store → R D} : mMeth cn nm f a as ρ S = (a ρ S).bind (methK cn nm f as ρ) := by rfl
theorem q_e_make {cn : Str} {f : List D → Store → R D} : mMake cn f as ρ S = (as ρ S).bind (makeK cn f) := by rfl
theorem q_e_bm {chk : D → Store → Bool} {g : D → List D → Store → R D} : mBM chk g a as ρ S = (a ρ S).bind (bmK chk g as ρ) := by rfl
theorem q_e_fld {cs : List Str} {f : Str} : mFld cs f a ρ S = (a ρ S).bind (getF cs f) := rfl
theorem q_e_gfld {cs : List Str} {f : Str} : mGFld cs f a d ρ S = (a ρ S).bind (gfldK cs f d ρ) := by rfl
theorem q_e_chain {g g' : D → D → Store → R D} : mChain g g' a b c ρ S = (a ρ S).bind (chainK g g' b c ρ) := by rfl
theorem q_e_sl {ml mh : MO} : mSl a ml mh ρ S = (a ρ S).bind (slK ml mh ρ) := by rfl
theorem q_e_no : mNo ρ S = .ok none S := rfl
theorem q_e_some : mSome a ρ S = (a ρ S).bind asI := rfl
theorem q_e_asI {i : Int} : asI (.int i) S = .ok (some i) S := rfl
theorem q_e_isB {T : String} : mIsB T a ρ S = (a ρ S).bind (isB T) := rfl
theorem q_e_yes : mYes ρ S = .ok true S := rfl
theorem q_e_for {mi : MI} : mFor mi g m ρ S = (mi ρ S).bind fun j S1 => mForL j g m (j.fuel S1) 0 ρ S1 := rfl
theorem q_e_rng1 : mRng1 a ρ S = (a ρ S).bind asRng1 := rfl
theorem q_e_rng2 : mRng2 a b ρ S = (a ρ S).bind (rng2K b ρ) := by rfl
theorem q_e_is : mIS a ρ S = (a ρ S).bind asItS := rfl
theorem q_e_lc {mi : MI} {vs : List Nat} : mLc mi vs g t a ρ S = (mi ρ S).bind fun j S1 => (mLcL j g t a (wipeE ρ vs) (j.fuel S1) 0 S1).calm := rfl
end
section
variable {d : D} {S : Store} {o0 o1 o2 o3 o4 o5 o6 o7 o8 o9 : Option D} {ρ : Env}
theorem q_e_v0 : mVar 0 (some d :: ρ) S = .ok d S := rfl
theorem q_e_v1 : mVar 1 (o0 :: some d :: ρ) S = .ok d S := rfl
theorem q_e_v2 : mVar 2 (o0 :: o1 :: some d :: ρ) S = .ok d S := rfl
theorem q_e_v3 : mVar 3 (o0 :: o1 :: o2 :: some d :: ρ) S = .ok d S := rfl
theorem q_e_v4 : mVar 4 (o0 :: o1 :: o2 :: o3 :: some d :: ρ) S = .ok d S := rfl
theorem q_e_v5 : mVar 5 (o0 :: o1 :: o2 :: o3 :: o4 :: some d :: ρ) S = .ok d S := rfl
theorem q_e_v6 : mVar 6 (o0 :: o1 :: o2 :: o3 :: o4 :: o5 :: some d :: ρ) S = .ok d S := rfl
theorem q_e_v7 : mVar 7 (o0 :: o1 :: o2 :: o3 :: o4 :: o5 :: o6 :: some d :: ρ) S = .ok d S := rfl
theorem q_e_v8 : mVar 8 (o0 :: o1 :: o2 :: o3 :: o4 :: o5 :: o6 :: o7 :: some d :: ρ) S = .ok d S := rfl
theorem q_e_v9 : mVar 9 (o0 :: o1 :: o2 :: o3 :: o4 :: o5 :: o6 :: o7 :: o8 :: some d :: ρ) S = .ok d S := rfl
theorem q_e_v10 : mVar 10 (o0 :: o1 :: o2 :: o3 :: o4 :: o5 :: o6 :: o7 :: o8 :: o9 :: some d :: ρ) S = .ok d S := rfl
theorem q_e_mapc {ds : List D} : (d :: ds).map some = some d :: ds.map some := rfl
theorem q_e_mapn : ([] : List D).map some = [] := rfl
theorem q_e_appc {o : Option D} {l m : Env} : (o :: l) ++ m = o :: (l ++ m) := rfl
theorem q_e_appn {m : Env} : ([] : Env) ++ m = m := rfl
theorem q_e_rep0 : List.replicate 0 (none : Option D) = [] := rfl
theorem q_e_rep1 : List.replicate 1 (none : Option D) = [none] := rfl
theorem q_e_rep2 : List.replicate 2 (none : Option D) = [none, none] := rfl
theorem q_e_rep3 : List.replicate 3 (none : Option D) = [none, none, none] := rfl
theorem q_e_rep4 : List.replicate 4 (none : Option D) = [none, none, none, none] := rfl
theorem q_e_rep5 : List.replicate 5 (none : Option D) = [none, none, none, none, none] := rfl
theorem q_e_rep6 : List.replicate 6 (none : Option D) = [none, none, none, none, none, none] := rfl
theorem q_e_rep7 : List.replicate 7 (none : Option D) = [none, none, none, none, none, none, none] := rfl
theorem q_e_rep8 : List.replicate 8 (none : Option D) = [none, none, none, none, none, none, none, none] := rfl
theorem q_e_rep9 : List.replicate 9 (none : Option D) = [none, none, none, none, none, none, none, none, none] := rfl
end

/-! ### reading and writing -/
/-- ds[i] -/
def atR (ds : List D) (i : Int) (S : Store) : R D := match atI ds i with
  | some d => .ok d S
  | none => .bad
def ixO (o : Option O) (k : D) (S : Store) : R D := match o with
  | some (.lst ds) => match k with
    | .int i => atR ds i S
    | _ => .bad
  | some (.dct kvs) => match k.key with
    | some k => match valD kvs k with
      | some d => .ok d S
      | none => .bad
    | none => .bad
  | _ => .bad
def valR (o : Option D) (S : Store) : R D := match o with
  | some d => .ok d S
  | none => .bad
/-- ds[i] := v -/
def putR (ds : List D) (i : Int) (v : D) : Option (List D) := (ixN ds.length i).map fun j => ds.set j v
def setO (o : Option O) (n : Nat) (k v : D) (S : Store) : R Unit := match o with
  | some (.lst ds) => match k with
    | .int i => match putR ds i v with
      | some es => .ok () (S.set n (.lst es))
      | none => .bad
    | _ => .bad
  | some (.dct kvs) => match k.key with
    | some k => if fits (kvs.length + 1) = true then .ok () (S.set n (.dct (putKD kvs k v))) else .bad
    | none => .bad
  | _ => .bad
def getFO (cs : List Str) (f : Str) (o : Option O) (S : Store) : R D := match o with
  | some (.ins c fs) => if c ∈ cs then valR (fs.lookup f) S else .bad
  | _ => .bad
def setFO (cs : List Str) (f : Str) (v : D) (n : Nat) (o : Option O) (S : Store) : R Unit := match o with
  | some (.ins c fs) => if c ∈ cs ∧ fs.length < 1000 then .ok () (S.set n (.ins c (putD f v fs))) else .bad
  | _ => .bad
def asInsO (c nm : Str) (n : Nat) (o : Option O) (S : Store) : R D := match o with
  | some (.ins c' fs) => if c' = c ∧ fs.lookup nm = none then .ok (.ref n) S else .bad
  | _ => .bad
def isLstO (o : Option O) : Bool := match o with
  | some (.lst _) => true
  | _ => false
def appO (n : Nat) (y : D) (o : Option O) (S : Store) : R D := match o with
  | some (.lst ds) => if fits ds.length = true then .ok .non (S.set n (.lst (ds ++ [y]))) else .bad
  | _ => .bad
def popO (n : Nat) (o : Option O) (S : Store) : R D := match o with
  | some (.lst ds) => match ds[ds.length - 1]? with
    | some d => .ok d (S.set n (.lst ds.dropLast))
    | none => .bad
  | _ => .bad
def lenO (o : Option O) (S : Store) : R D := match o with
  | some (.lst ds) => .ok (.int (ds.length : Nat)) S
  | some (.dct kvs) => .ok (.int (kvs.length : Nat)) S
  | _ => .bad
def inO (n : Bool) (d : D) (o : Option O) (S : Store) : R D := match o with
  | some (.lst es) => if (d.flat && es.all D.flat) = true then .ok (.bl (if n = true then !es.any (fun e => e.eqF d) else es.any fun e => e.eqF d)) S else .bad
  | some (.dct kvs) => match d.key with
    | some k => .ok (.bl (if n = true then !(valD kvs k).isSome else (valD kvs k).isSome)) S
    | none => .bad
  | _ => .bad
def tupO (o : Option O) (S : Store) : R D := match o with
  | some (.lst ds) => .ok (.tup ds) S
  | _ => .bad
def catO (o p : Option O) (S : Store) : R D := match o, p with
  | some (.lst ds), some (.lst es) => if fits (ds.length + es.length) = true then .ok (.ref S.next) (S.push (.lst (ds ++ es))) else .bad
  | _, _ => .bad
def extO (n : Nat) (o p : Option O) (S : Store) : R D := match o, p with
  | some (.lst ds), some (.lst es) => if fits (ds.length + es.length) = true then .ok .non (S.set n (.lst (ds ++ es))) else .bad
  | _, _ => .bad
/-- is the list that o is empty (nothing said of other things) -/
def iterO (n : Nat) (o : Option O) (S : Store) : R IT := match o with
  | some (.lst _) => .ok (.lst n) S
  | _ => .bad
section
variable {S : Store} {i j : Int} {n m : Nat} {ds es : List D} {d e v k : D} {x y : Str} {p q : String} {kvs : List (Key × D)} {c f nm : Str} {fs : List (Str × D)} {cs : List Str} {b : Bool}
theorem q_fits_of {n : Nat} (h : n ≤ 16000000) : fits n = true := decide_eq_true h
theorem q_ix_ref : getIx (.ref n) k S = ixO (S.get n) k S := by
  unfold getIx ixO atR
  cases k <;> dsimp only <;> (cases S.get n with
  | none => rfl
  | some o => cases o <;> rfl)
theorem q_ix_tup : getIx (.tup ds) (.int i) S = atR ds i S := rfl
theorem q_ix_rl : getIx (.rl ds) (.int i) S = atR ds i S := rfl
theorem q_ixO_l : ixO (some (.lst ds)) (.int i) S = atR ds i S := rfl
theorem q_ixO_di : ixO (some (.dct kvs)) (.int i) S = valR (valD kvs (.inl i)) S := by
  unfold ixO valR
  rfl
theorem q_ixO_ds : ixO (some (.dct kvs)) (.str x) S = valR (valD kvs (.inr x)) S := by
  unfold ixO valR
  rfl
theorem q_valR_some : valR (some d) S = .ok d S := rfl
theorem ixN_lt {n k : Nat} (h : k < n) : ixN n (k : Nat) = some k := by
  unfold ixN
  rw [if_pos (by omega), if_pos (by omega)]
  rfl
theorem q_atR_k {k : Nat} (h : ds[k]? = some d) : atR ds (k : Nat) S = .ok d S := by
  obtain ⟨hk, _⟩ := List.getElem?_eq_some_iff.mp h
  unfold atR atI
  rw [ixN_lt hk, Option.bind_some, h]
theorem q_atR_0 : atR (d :: ds) 0 S = .ok d S := q_atR_k (k := 0) rfl
theorem q_atR_1 {d0 : D} : atR (d0 :: d :: ds) 1 S = .ok d S := q_atR_k (k := 1) rfl
theorem q_atR_2 {d0 d1 : D} : atR (d0 :: d1 :: d :: ds) 2 S = .ok d S := q_atR_k (k := 2) rfl
theorem q_atR_3 {d0 d1 d2 : D} : atR (d0 :: d1 :: d2 :: d :: ds) 3 S = .ok d S := q_atR_k (k := 3) rfl
theorem q_atR_4 {d0 d1 d2 d3 : D} : atR (d0 :: d1 :: d2 :: d3 :: d :: ds) 4 S = .ok d S := q_atR_k (k := 4) rfl
theorem q_atR_last : atR (ds ++ [d]) (-1) S = .ok d S := by
  have h : ixN (ds ++ [d]).length (-1) = some ds.length := by
    unfold ixN
    rw [List.length_append, if_neg (by omega), if_pos (by simp; omega)]
    congr 1
    simp
    omega
  unfold atR atI
  rw [h, Option.bind_some, List.getElem?_append_right (Nat.le_refl _), Nat.sub_self]
  rfl
theorem q_atR_last1 : atR [d] (-1) S = .ok d S := q_atR_last (ds := [])
theorem q_atR_last3 {a b : D} : atR [a, b, d] (-1) S = .ok d S := q_atR_last (ds := [a, b])
theorem q_atR_last4 {a b c : D} : atR [a, b, c, d] (-1) S = .ok d S := q_atR_last (ds := [a, b, c])
theorem q_atR_last2 {a : D} : atR [a, d] (-1) S = .ok d S := q_atR_last (ds := [a])
theorem q_set_ref : setIx (.ref n) k v S = setO (S.get n) n k v S := by
  unfold setIx setO putR
  dsimp only
  all_goals (cases S.get n with
  | none => rfl
  | some o =>
    cases o with
    | lst ds =>
      cases k with
      | int i => dsimp only; cases ixN ds.length i <;> rfl
      | _ => rfl
    | _ => rfl)
theorem q_putR_k {k : Nat} (h : k < ds.length) : putR ds (k : Nat) v = some (ds.set k v) := by
  unfold putR
  rw [ixN_lt h, Option.map_some]
theorem q_putR_0 : putR (d :: ds) 0 v = some (v :: ds) := q_putR_k (k := 0) (by simp)
theorem q_putR_1 {d0 : D} : putR (d0 :: d :: ds) 1 v = some (d0 :: v :: ds) := q_putR_k (k := 1) (by simp)
theorem q_putR_2 {d0 d1 : D} : putR (d0 :: d1 :: d :: ds) 2 v = some (d0 :: d1 :: v :: ds) := q_putR_k (k := 2) (by simp)
theorem q_putR_3 {d0 d1 d2 : D} : putR (d0 :: d1 :: d2 :: d :: ds) 3 v = some (d0 :: d1 :: d2 :: v :: ds) := q_putR_k (k := 3) (by simp)
def setLR (n : Nat) (o : Option (List D)) (S : Store) : R Unit := match o with
  | some es => .ok () (S.set n (.lst es))
  | none => .bad
theorem q_setO_l : setO (some (.lst ds)) n (.int i) v S = setLR n (putR ds i v) S := rfl
theorem q_setLR_some : setLR n (some es) S = .ok () (S.set n (.lst es)) := rfl
theorem q_setO_di (h : kvs.length ≤ 15000000) : setO (some (.dct kvs)) n (.int i) v S = .ok () (S.set n (.dct (putKD kvs (.inl i) v))) := by
  unfold setO
  exact if_pos (q_fits_of (by omega))
theorem q_setO_ds (h : kvs.length ≤ 15000000) : setO (some (.dct kvs)) n (.str x) v S = .ok () (S.set n (.dct (putKD kvs (.inr x) v))) := by
  unfold setO
  exact if_pos (q_fits_of (by omega))
theorem q_getF_ref : getF cs f (.ref n) S = getFO cs f (S.get n) S := by
  unfold getF getFO valR
  dsimp only
  all_goals (cases S.get n with
  | none => rfl
  | some o => cases o <;> rfl)
theorem q_getFO_i : getFO cs f (some (.ins c fs)) S = if c ∈ cs then valR (fs.lookup f) S else .bad := rfl
theorem q_setF_ref : setF cs f v (.ref n) S = setFO cs f v n (S.get n) S := by
  unfold setF setFO
  dsimp only
  all_goals (cases S.get n with
  | none => rfl
  | some o => cases o <;> rfl)
theorem q_setFO_i : setFO cs f v n (some (.ins c fs)) S = if c ∈ cs ∧ fs.length < 1000 then .ok () (S.set n (.ins c (putD f v fs))) else .bad := rfl
theorem q_asIns_ref : asIns c nm (.ref n) S = asInsO c nm n (S.get n) S := by
  unfold asIns asInsO
  dsimp only
  all_goals (cases S.get n with
  | none => rfl
  | some o => cases o <;> rfl)
theorem q_asInsO_i : asInsO c nm n (some (.ins f fs)) S = if f = c ∧ fs.lookup nm = none then .ok (.ref n) S else .bad := rfl
theorem q_isLst_ref : isLst (.ref n) S = isLstO (S.get n) := by
  unfold isLst isLstO
  dsimp only
  all_goals (cases S.get n with
  | none => rfl
  | some o => cases o <;> rfl)
theorem q_isLstO_l : isLstO (some (.lst ds)) = true := rfl
theorem q_app_ref : bAppend (.ref n) [d] S = appO n d (S.get n) S := by
  unfold bAppend appO
  dsimp only
  all_goals (cases S.get n with
  | none => rfl
  | some o => cases o <;> rfl)
theorem q_appO_l (h : ds.length ≤ 16000000) : appO n d (some (.lst ds)) S = .ok .non (S.set n (.lst (ds ++ [d]))) := if_pos (q_fits_of h)
theorem q_lts : ((0 : Nat) = 0) = True := eq_self 0
theorem q_pop_ref : bPop (.ref n) [] S = popO n (S.get n) S := by
  unfold bPop popO
  dsimp only
  all_goals (cases S.get n with
  | none => rfl
  | some o => cases o <;> rfl)
theorem q_popO_l : popO n (some (.lst (ds ++ [d]))) S = .ok d (S.set n (.lst ds)) := by
  unfold popO
  dsimp only
  rw [List.length_append, List.length_singleton, Nat.add_sub_cancel, List.getElem?_append_right (Nat.le_refl _), Nat.sub_self, List.dropLast_concat]
  rfl
theorem q_popO_1 : popO n (some (.lst [d])) S = .ok d (S.set n (.lst [])) := q_popO_l (ds := [])
theorem q_len_ref : bLen [.ref n] S = lenO (S.get n) S := by
  unfold bLen lenO
  dsimp only
  all_goals (cases S.get n with
  | none => rfl
  | some o => cases o <;> rfl)
theorem q_lenO_l : lenO (some (.lst ds)) S = .ok (.int (ds.length : Nat)) S := rfl
theorem q_lenO_d : lenO (some (.dct kvs)) S = .ok (.int (kvs.length : Nat)) S := rfl
theorem q_len_tup : bLen [.tup ds] S = .ok (.int (ds.length : Nat)) S := rfl
theorem q_len_rl : bLen [.rl ds] S = .ok (.int (ds.length : Nat)) S := rfl
theorem q_in_ref : dIn b d (.ref n) S = inO b d (S.get n) S := by
  unfold dIn inO
  cases d <;> dsimp only <;> (cases S.get n with
  | none => rfl
  | some o => cases o <;> rfl)
theorem q_inO_di : inO false (.int i) (some (.dct kvs)) S = .ok (.bl (valD kvs (.inl i)).isSome) S := rfl
theorem q_inO_ds : inO false (.str x) (some (.dct kvs)) S = .ok (.bl (valD kvs (.inr x)).isSome) S := rfl
theorem q_inO_l : inO false d (some (.lst es)) S = if (d.flat && es.all D.flat) = true then .ok (.bl (es.any fun e => e.eqF d)) S else .bad := rfl
theorem q_in_tup : dIn false d (.tup es) S = if (d.flat && es.all D.flat) = true then .ok (.bl (es.any fun e => e.eqF d)) S else .bad := by
  unfold dIn; rfl
theorem q_tup_ref : bTup [.ref n] S = tupO (S.get n) S := by
  unfold bTup tupO
  dsimp only
  all_goals (cases S.get n with
  | none => rfl
  | some o => cases o <;> rfl)
theorem q_tupO_l : tupO (some (.lst ds)) S = .ok (.tup ds) S := rfl
theorem q_add_ref : opAdd (.ref n) (.ref m) S = catO (S.get n) (S.get m) S := by
  unfold opAdd catO
  dsimp only
  all_goals (cases S.get n with
  | none => rfl
  | some o =>
    cases o with
    | lst ds => cases S.get m with
      | none => rfl
      | some o => cases o <;> rfl
    | _ => rfl)
theorem q_catO_l (h : ds.length + es.length ≤ 16000000) : catO (some (.lst ds)) (some (.lst es)) S = .ok (.ref S.next) (S.push (.lst (ds ++ es))) := if_pos (q_fits_of h)
theorem q_add_int : opAdd (.int i) (.int j) S = .ok (.int (i + j)) S := rfl
theorem q_add_tup (h : ds ≠ []) (hf : ds.length + es.length ≤ 16000000) : opAdd (.tup ds) (.tup es) S = .ok (.tup (ds ++ es)) S := if_pos ⟨h, q_fits_of hf⟩
theorem q_sub_int : opSub (.int i) (.int j) S = .ok (.int (i - j)) S := rfl
theorem q_lt_int : opLt (.int i) (.int j) S = .ok (.bl (decide (i < j))) S := rfl
theorem q_le_int : opLe (.int i) (.int j) S = .ok (.bl (decide (i ≤ j))) S := rfl
theorem q_gt_int : opGt (.int i) (.int j) S = .ok (.bl (decide (j < i))) S := rfl
theorem q_ge_int : opGe (.int i) (.int j) S = .ok (.bl (decide (j ≤ i))) S := rfl
theorem q_neg_int : opNeg (.int i) S = .ok (.int (-i)) S := rfl
theorem q_mul_int : opMul (.int i) (.int j) S = if i.natAbs.log2 + j.natAbs.log2 < 1000000 then .ok (.int (i * j)) S else .bad := rfl
theorem q_mod_int (h : j ≠ 0) : opMod (.int i) (.int j) S = .ok (.int (i.fmod j)) S := if_pos (decide_eq_true h)
theorem q_fdiv_int (h : j ≠ 0) (h2 : j.natAbs.log2 < 9000) : opFdiv (.int i) (.int j) S = .ok (.int (i.fdiv j)) S := if_pos (by simp [h, h2])
theorem q_abs_int : bAbs [.int i] S = .ok (.int (if i < 0 then -i else i)) S := rfl
theorem q_int_int : bInt [.int i] S = .ok (.int i) S := rfl
theorem q_int_bl : bInt [.bl b] S = .ok (.int (if b then 1 else 0)) S := rfl
theorem q_max_int : bMax2 [.int i, .int j] S = .ok (.int (if j > i then j else i)) S := rfl
theorem q_min_int : bMin2 [.int i, .int j] S = .ok (.int (if j < i then j else i)) S := rfl
theorem q_divmod_int (h : 0 < j ∧ j.natAbs < 1073741824) : bDivmod [.int i, .int j] S = .ok (.tup [.int (i / j), .int (i % j)]) S := if_pos h
theorem q_is_non {d : D} : opIs d .non S = .ok (.bl d.isNon) S := by cases d <;> rfl
theorem q_isnot_non {d : D} : opIsNot d .non S = .ok (.bl (!d.isNon)) S := by cases d <;> rfl
theorem q_is_bl {a b : Bool} : opIs (.bl a) (.bl b) S = .ok (.bl (decide (a = b))) S := rfl
theorem q_isnot_bl {a b : Bool} : opIsNot (.bl a) (.bl b) S = .ok (.bl (!decide (a = b))) S := rfl

/-! ### == -/
theorem ofString_strOk (s : String) : PyData.strOk (Str.ofString s) = true := by
  rw [Str.ofString_eq_toList]
  unfold PyData.strOk
  simp only [List.all_toArray, List.all_map, List.all_eq_true, Function.comp, decide_eq_true_eq]
  intro c _
  exact Nat.lt_of_lt_of_le (by have := c.valid; rcases this with h | h; · exact Nat.lt_trans h (by decide)
                               · exact h.2) (Nat.le_refl _)
theorem q_str_inj : (Str.ofString p = Str.ofString q) = (p = q) := by
  refine propext ⟨fun h => ?_, fun h => by rw [h]⟩
  rw [Str.ofString_eq_toList, Str.ofString_eq_toList] at h
  have h1 : p.toList.map Char.toNat = q.toList.map Char.toNat := by
    injection h with h
    exact List.toArray_inj h
  have h2 : p.toList = q.toList := by
    refine (List.map_inj_right ?_).mp h1
    intro a b e
    exact Char.toNat_inj.mp e
  exact String.toList_inj.mp h2
theorem q_str_beq : (Str.ofString p == Str.ofString q) = (p == q) := by
  rw [Bool.eq_iff_iff, beq_iff_eq, beq_iff_eq, q_str_inj]
theorem q_eq_str : opEq (.str (Str.ofString p)) (.str (Str.ofString q)) S = .ok (.bl (p == q)) S := by
  unfold opEq dEq
  simp only [lenNe, toP, SeqAt.shaped, PyData.canLay0, PyData.depth, ofString_strOk, PyData.eqv, q_str_beq]
  rfl
theorem q_ne_str : opNe (.str (Str.ofString p)) (.str (Str.ofString q)) S = .ok (.bl (!(p == q))) S := by
  unfold opNe dEq
  simp only [lenNe, toP, SeqAt.shaped, PyData.canLay0, PyData.depth, ofString_strOk, PyData.eqv, q_str_beq]
  rfl
theorem q_eq_int : opEq (.int i) (.int j) S = .ok (.bl (i == j)) S := by
  unfold opEq dEq
  simp only [lenNe, toP, SeqAt.shaped, PyData.canLay0, PyData.depth, PyData.eqv]
  rfl
theorem q_ne_int : opNe (.int i) (.int j) S = .ok (.bl (!(i == j))) S := by
  unfold opNe dEq
  simp only [lenNe, toP, SeqAt.shaped, PyData.canLay0, PyData.depth, PyData.eqv]
  rfl
/-- a list and the empty list -/
def eqO (k : Bool → Bool) (n m : Nat) (o p : Option O) (S : Store) : R D := match o, p with
  | some (.lst ds), some (.lst []) => .ok (.bl (k ds.isEmpty)) S
  | _, _ => dEq k (.ref n) (.ref m) S
theorem eqO_ref (g : Bool → Bool) : dEq g (.ref n) (.ref m) S = eqO g n m (S.get n) (S.get m) S := by
  unfold eqO
  cases hn : S.get n with
  | none => rfl
  | some o =>
    cases o with
    | lst ds =>
      cases hm : S.get m with
      | none => rfl
      | some o =>
        cases o with
        | lst es =>
          cases es with
          | cons _ _ => rfl
          | nil =>
            dsimp only
            unfold dEq
            cases ds with
            | nil =>
              simp only [lenNe, hn, hm, toP, optAll, Option.map, SeqAt.shaped, PyData.canLay0, PyData.depth, PyData.eqv, PyData.eqvAll, PyData.canLayAll0, PyData.depthAll]
              rfl
            | cons d ds => simp [lenNe, hn, hm]
        | _ => rfl
    | _ => rfl
theorem q_eq_ref : opEq (.ref n) (.ref m) S = eqO id n m (S.get n) (S.get m) S := eqO_ref id
theorem q_ne_ref : opNe (.ref n) (.ref m) S = eqO not n m (S.get n) (S.get m) S := eqO_ref not
theorem q_eqO_i : eqO id n m (some (.lst ds)) (some (.lst [])) S = .ok (.bl ds.isEmpty) S := rfl
theorem q_eqO_n : eqO not n m (some (.lst ds)) (some (.lst [])) S = .ok (.bl (!ds.isEmpty)) S := rfl
theorem q_emp : (ds ++ [d]).isEmpty = false := by cases ds <;> rfl
theorem q_emp0 : ([] : List D).isEmpty = true := rfl
theorem q_nx1 : (n = n + 1) = False := eq_false (by omega)
theorem q_nx2 : (n + 1 = n) = False := eq_false (by omega)
theorem q_nx3 : (n = n + 1 + 1) = False := eq_false (by omega)
theorem q_nx4 : (n + 1 + 1 = n) = False := eq_false (by omega)
theorem q_nx5 : (n = n + 1 + 1 + 1) = False := eq_false (by omega)
theorem q_nx6 : (n + 1 + 1 + 1 = n) = False := eq_false (by omega)
theorem q_nx7 : (n = n + 2) = False := eq_false (by omega)
theorem q_nx8 : (n + 2 = n) = False := eq_false (by omega)
theorem q_nx9 : (n = n + 1 + 1 + 1 + 1) = False := eq_false (by omega)
theorem q_nxa : (n = n + 1 + 1 + 1 + 1 + 1) = False := eq_false (by omega)
theorem q_nxb : (n = n + 1 + 1 + 1 + 1 + 1 + 1) = False := eq_false (by omega)
theorem q_nxc : (n + 1 + 1 + 1 + 1 = n) = False := eq_false (by omega)
theorem q_nxd : (n + 1 + 1 + 1 + 1 + 1 = n) = False := eq_false (by omega)
theorem q_ne_tup2 {a b c e : Int} : opNe (.tup [.int a, .int b]) (.tup [.int c, .int e]) S = .ok (.bl (!(a == c && b == e))) S := by
  unfold opNe dEq
  simp only [lenNe, toP, optAll, Option.map, SeqAt.shaped, PyData.canLay0, PyData.canLayAll0, PyData.depth, PyData.depthAll, PyData.eqv, PyData.eqvAll, Bool.and_true]
  rfl
def mulO (o : Option O) (k : Int) (S : Store) : R D := match o with
  | some (.lst ds) => if smI k = true ∧ fits (ds.length * k.toNat) = true then .ok (.ref S.next) (S.push (.lst (List.replicate k.toNat ds).flatten)) else .bad
  | _ => .bad
theorem q_mul_ref {k : Int} : opMul (.ref n) (.int k) S = mulO (S.get n) k S := by
  unfold opMul mulO
  dsimp only
  all_goals (cases S.get n with
  | none => rfl
  | some o => cases o <;> rfl)
theorem q_mulO_1 {k : Nat} (h : k ≤ 16000000) : mulO (some (.lst [d])) (k : Nat) S = .ok (.ref S.next) (S.push (.lst (List.replicate k d))) := by
  unfold mulO
  dsimp only
  rw [if_pos ⟨decide_eq_true (by omega), q_fits_of (by simpa using h)⟩]
  congr 3
  rw [Int.toNat_natCast]
  induction k with
  | zero => rfl
  | succ k ih => rw [List.replicate_succ, List.replicate_succ, List.flatten_cons, ih (by omega)]; rfl
theorem q_ext_ref : bExtend (.ref n) [.ref m] S = extO n (S.get n) (S.get m) S := by
  unfold bExtend extO
  dsimp only
  all_goals (cases S.get n with
  | none => rfl
  | some o =>
    cases o with
    | lst ds => cases S.get m with
      | none => rfl
      | some o => cases o <;> rfl
    | _ => rfl)
theorem q_extO_l (h : ds.length + es.length ≤ 16000000) : extO n (some (.lst ds)) (some (.lst es)) S = .ok .non (S.set n (.lst (ds ++ es))) := if_pos (q_fits_of h)
theorem q_flat_int : (D.int i).flat = true := rfl
theorem q_flat_str : (D.str x).flat = true := rfl
theorem q_flat_bl : (D.bl b).flat = true := rfl
theorem q_flat_non : D.non.flat = true := rfl
theorem q_eqF_int : (D.int i).eqF (.int j) = (i == j) := rfl
theorem q_eqF_str : (D.str (Str.ofString p)).eqF (.str (Str.ofString q)) = (p == q) := q_str_beq
def isBO (T : String) (o : Option O) (S : Store) : R D := match o with
  | some (.lst _) => .ok (.bl (tyIs T "list")) S
  | some (.dct _) => .ok (.bl (tyIs T "dict")) S
  | _ => .bad
theorem q_isB_int {T : String} : isB T (.int i) S = .ok (.bl ("int" == T || ("int" == "bool" && T == "int"))) S := rfl
theorem q_isB_str {T : String} : isB T (.str x) S = .ok (.bl ("str" == T || ("str" == "bool" && T == "int"))) S := rfl
theorem q_isB_bl {T : String} : isB T (.bl b) S = .ok (.bl ("bool" == T || ("bool" == "bool" && T == "int"))) S := rfl
theorem q_isB_tup {T : String} : isB T (.tup ds) S = .ok (.bl ("tuple" == T || ("tuple" == "bool" && T == "int"))) S := rfl
theorem q_isB_rl {T : String} : isB T (.rl ds) S = .ok (.bl ("list" == T || ("list" == "bool" && T == "int"))) S := rfl
theorem q_isB_non {T : String} : isB T .non S = .ok (.bl ("NoneType" == T || ("NoneType" == "bool" && T == "int"))) S := rfl
theorem q_isB_ref {T : String} : isB T (.ref n) S = isBO T (S.get n) S := by
  unfold isB isBO D.ty
  dsimp only
  all_goals (cases S.get n with
  | none => rfl
  | some o => cases o <;> rfl)
theorem q_isBO_l {T : String} : isBO T (some (.lst ds)) S = .ok (.bl ("list" == T || ("list" == "bool" && T == "int"))) S := rfl
theorem q_isBO_d {T : String} : isBO T (some (.dct kvs)) S = .ok (.bl ("dict" == T || ("dict" == "bool" && T == "int"))) S := rfl
theorem q_isNon_ref : (D.ref n).isNon = false := rfl
theorem q_isNon_int : (D.int i).isNon = false := rfl
theorem q_isNon_str : (D.str x).isNon = false := rfl
theorem q_isNon_tup : (D.tup ds).isNon = false := rfl
theorem q_isNon_bl : (D.bl b).isNon = false := rfl
theorem q_isNon_non : (D.non).isNon = true := rfl
end
/-! ### loops and comprehensions -/
theorem lcL_gen {j : IT} {ds : List D} {P : Store → Prop} {g : MG} {m : ME} {ρ : Env} {f : D → D} (hat : ∀ T, P T → ∀ i, j.at i T = some ds[i]?) (hm : ∀ d ∈ ds, ∀ T, P T → ∃ ρ1 T1, g d ρ T = .ok ρ1 T1 ∧ ∃ T2, m ρ1 T1 = .ok (f d) T2 ∧ P T2) (hl : ds.length ≤ 16000000) :
    ∀ (n i : Nat) (S : Store), i + n = ds.length + 1 ∧ i ≤ ds.length → P S → ∃ T, mLcL j g mYes m ρ n i S = .ok ((ds.drop i).map f) T ∧ P T
  | 0, i, S, h, hP => by
    exact absurd h (by omega)
  | n + 1, i, S, h, hP => by
    unfold mLcL
    rw [hat S hP i]
    by_cases c : i < ds.length
    · rw [List.getElem?_eq_getElem c]
      obtain ⟨ρ1, T1, h1, T2, h2, hP2⟩ := hm ds[i] (List.getElem_mem c) S hP
      obtain ⟨T, h3, hP3⟩ := lcL_gen hat hm hl n (i + 1) T2 ⟨by omega, by omega⟩ hP2
      refine ⟨T, ?_, hP3⟩
      dsimp only
      rw [h1, R.bind_ok, q_e_yes, R.bind_ok, if_pos rfl, h2, R.bind_ok, if_pos (q_fits_of (by omega)), h3, R.bind_ok, List.drop_eq_getElem_cons c]
      rfl
    · rw [List.getElem?_eq_none (by omega), List.drop_eq_nil_of_le (by omega)]
      exact ⟨S, rfl, hP⟩
theorem lc_list {a m : ME} {v n : Nat} {ρ : Env} {S : Store} {ds : List D} {f : D → D} (ha : a ρ S = .ok (.ref n) S) (hn : S.get n = some (.lst ds)) (hm : ∀ d ∈ ds, m ((wipeE ρ [v]).set v (some d)) S = .ok (f d) S) (hl : ds.length ≤ 16000000) :
    mLc (mIS a) [v] (mGN v) mYes m ρ S = .ok (ds.map f) S := by
  unfold mLc mIS
  rw [ha, R.bind_ok]
  unfold asItS
  dsimp only
  rw [hn]
  dsimp only
  rw [R.bind_ok]
  have hf : IT.fuel (.lst n) S = ds.length + 1 := by
    unfold IT.fuel
    dsimp only
    rw [hn]
  rw [hf]
  obtain ⟨T, h, rfl⟩ := lcL_gen (j := .lst n) (ds := ds) (P := fun T => T = S) (g := mGN v) (m := m) (ρ := wipeE ρ [v]) (f := f) (fun T hT i => by rw [hT]; unfold IT.at; dsimp only; rw [hn]) (fun d hd T hT => ⟨_, T, rfl, T, by rw [hT]; exact hm d hd, hT⟩) hl (ds.length + 1) 0 S ⟨by omega, Nat.zero_le _⟩ rfl
  rw [h]
  rfl
/-- over data, where each turn keeps P -/
theorem lc_dat {a m : ME} {v : Nat} {ρ : Env} {S : Store} {ds : List D} {f : D → D} {P : Store → Prop} (ha : a ρ S = .ok (.tup ds) S) (hP : P S) (hm : ∀ d ∈ ds, ∀ T, P T → ∃ T2, m ((wipeE ρ [v]).set v (some d)) T = .ok (f d) T2 ∧ P T2) (hl : ds.length ≤ 16000000) :
    ∃ T, mLc (mIS a) [v] (mGN v) mYes m ρ S = .ok (ds.map f) T ∧ P T := by
  unfold mLc mIS
  rw [ha, R.bind_ok]
  unfold asItS
  dsimp only
  rw [R.bind_ok]
  obtain ⟨T, h, hT⟩ := lcL_gen (j := .dat ds) (ds := ds) (P := P) (g := mGN v) (m := m) (ρ := wipeE ρ [v]) (f := f) (fun T hT i => rfl) (fun d hd T hT => ⟨_, T, rfl, hm d hd T hT⟩) hl (ds.length + 1) 0 S ⟨by omega, Nat.zero_le _⟩ hP
  refine ⟨T, ?_, hT⟩
  show (mLcL (.dat ds) (mGN v) mYes m (wipeE ρ [v]) (ds.length + 1) 0 S).calm = _
  rw [h]
  rfl
inductive OkD {β : Type} : R β → (β → Store → Prop) → Prop
  | ok {Q : β → Store → Prop} {b : β} {S : Store} (h : Q b S) : OkD (.ok b S) Q
theorem OkD.ex {β : Type} {r : R β} {Q : β → Store → Prop} (h : OkD r Q) : ∃ b S, r = .ok b S ∧ Q b S := by
  cases h with
  | ok h => exact ⟨_, _, rfl, h⟩
theorem firstD_some {y : D} : ∀ {ds : List D} {k : Nat}, (ds.any fun e => e.eqF y) = true → ∃ j, firstD y ds k = some j ∧ j < k + ds.length
  | [], _, h => by cases h
  | d :: ds, k, h => by
    unfold firstD
    by_cases c : d.eqF y = true
    · rw [if_pos c]
      exact ⟨k, rfl, by simp⟩
    · rw [if_neg c]
      rw [List.any_cons, Bool.eq_false_iff.mpr c, Bool.false_or] at h
      obtain ⟨j, h1, h2⟩ := firstD_some (k := k + 1) h
      exact ⟨j, h1, by rw [List.length_cons]; omega⟩
theorem intsD_map {γ : Type} {g : γ → Int} : ∀ l : List γ, intsD (l.map fun x => D.int (g x)) = some (l.map g)
  | [] => rfl
  | x :: l => by
    rw [List.map_cons, List.map_cons]
    unfold intsD
    rw [intsD_map l]
theorem cutD_drop {ds : List D} {j : Nat} (h : j < ds.length) : cutD ds (some (j : Nat)) none = ds.drop j := by
  unfold cutD
  rw [HT.sIx_none, HT.sIx_nat, Nat.min_eq_left (Nat.le_of_lt h)]
  exact List.take_of_length_le (by rw [List.length_drop]; omega)
theorem minL_mem : ∀ (js : List Int) (i : Int), minL i js ∈ i :: js
  | [], i => by simp [minL]
  | j :: js, i => by
    unfold minL
    have h := minL_mem js (if j < i then j else i)
    rw [List.mem_cons] at h
    rcases h with h | h
    · rw [h]; split <;> simp
    · simp [h]
end MM

/-! k83, plain: the machine without a store. -/
namespace PP
open PySem L2 MM

inductive Op where
  | add | less | times | over | left | below | equal
def Op.w : Op → String
  | .add => "add" | .less => "less" | .times => "times" | .over => "over" | .left => "left" | .below => "below" | .equal => "equal"
inductive I where
  | push (i : Int) | call (n : Nat) | unless (n : Nat) | go (n : Nat) | opn (n : Nat) | close (n : Nat) | op (w : Op) | soFar | turn | ret
def I.enc : I → D
  | .push i => .tup [.str (Str.ofString "push"), .int i]
  | .call n => .tup [.str (Str.ofString "call"), .int (n : Nat)]
  | .unless n => .tup [.str (Str.ofString "unless"), .int (n : Nat)]
  | .go n => .tup [.str (Str.ofString "go"), .int (n : Nat)]
  | .opn n => .tup [.str (Str.ofString "open"), .int (n : Nat)]
  | .close n => .tup [.str (Str.ofString "close"), .int (n : Nat)]
  | .op w => .tup [.str (Str.ofString w.w)]
  | .soFar => .tup [.str (Str.ofString "so far")]
  | .turn => .tup [.str (Str.ofString "turn")]
  | .ret => .tup [.str (Str.ofString "return")]
abbrev Lim : Int := 1000000000000
def B (v : Int) : Prop := -1000000000000 ≤ v ∧ v ≤ 1000000000000
def Op.raw : Op → Int → Int → Int
  | .add, a, b => a + b
  | .less, a, b => a - b
  | .times, a, b => a * b
  | .over, a, b => a.fdiv b
  | .left, a, b => a.fmod b
  | .below, a, b => if a < b then 1 else 0
  | .equal, a, b => if a = b then 1 else 0
def Op.isDiv : Op → Bool
  | .over => true
  | .left => true
  | _ => false
/-- a number, or the word of the fault -/
def cal (w : Op) (a b : Int) : Except String Int :=
  if w.isDiv = true ∧ b = 0 then .error "nought" else if -1000000000000 ≤ w.raw a b ∧ w.raw a b ≤ 1000000000000 then .ok (w.raw a b) else .error "great"
structure Fr where
  pos : Nat
  at_ : Nat
  st : List Int
  lp : List (Int × Int × Int)
structure M where
  kn : List (Key × D)
  fs : List Fr
inductive Out where
  | on (m : M) | fin (ds : List D)
def posD (fs : List Fr) : List D := (fs.map fun f => D.int (f.pos : Nat)).reverse
def ringMin (ps : List D) (n : Nat) : Option Int := match firstD (.int (n : Nat)) ps 0 with
  | some j => match intsD (cutD ps (some (j : Nat)) none) with
    | some (i :: is) => some (minL i is)
    | _ => none
  | none => none
def faultD (w : String) (p : Nat) : Out := .fin [.str (Str.ofString "fault"), .str (Str.ofString w), .int (p : Nat)]
def step (kn : List (Key × D)) (rest : List Fr) (p a : Nat) (st : List Int) (lp : List (Int × Int × Int)) : I → Option Out
  | .push i => some (.on ⟨kn, ⟨p, a + 1, i :: st, lp⟩ :: rest⟩)
  | .soFar => match lp with
    | (t, s, k) :: l => some (.on ⟨kn, ⟨p, a + 1, s :: st, (t, s, k) :: l⟩ :: rest⟩)
    | [] => none
  | .turn => match lp with
    | (t, s, k) :: l => some (.on ⟨kn, ⟨p, a + 1, k :: st, (t, s, k) :: l⟩ :: rest⟩)
    | [] => none
  | .op w => match st with
    | y :: x :: s => match cal w x y with
      | .ok v => some (.on ⟨kn, ⟨p, a + 1, v :: s, lp⟩ :: rest⟩)
      | .error e => some (faultD e p)
    | _ => none
  | .unless n => match st with
    | v :: s => some (.on ⟨kn, ⟨p, if v = 0 then n else a + 1, s, lp⟩ :: rest⟩)
    | _ => none
  | .go n => some (.on ⟨kn, ⟨p, n, st, lp⟩ :: rest⟩)
  | .opn n => match st with
    | v :: t :: s => if 200 < t then some (faultD "long" p) else if t < 1 then some (.on ⟨kn, ⟨p, n, v :: s, lp⟩ :: rest⟩) else some (.on ⟨kn, ⟨p, a + 1, s, (t, v, 0) :: lp⟩ :: rest⟩)
    | _ => none
  | .close n => match st, lp with
    | v :: s, (t, _, k) :: l => if k + 1 < t then some (.on ⟨kn, ⟨p, n, s, (t, v, k + 1) :: l⟩ :: rest⟩) else some (.on ⟨kn, ⟨p, a + 1, v :: s, l⟩ :: rest⟩)
    | _, _ => none
  | .call n => match valD kn (.inl (n : Nat)) with
    | some (.int v) => some (.on ⟨kn, ⟨p, a + 1, v :: st, lp⟩ :: rest⟩)
    | some _ => none
    | none => if ((posD (⟨p, a, st, lp⟩ :: rest)).any fun e => e.eqF (.int (n : Nat))) = true then match ringMin (posD (⟨p, a, st, lp⟩ :: rest)) n with
        | some i => some (.fin [.str (Str.ofString "fault"), .str (Str.ofString "ring"), .int i])
        | none => none
      else some (.on ⟨kn, ⟨n, 0, [], []⟩ :: ⟨p, a + 1, st, lp⟩ :: rest⟩)
  | .ret => match st with
    | v :: s => match rest with
      | [] => some (.fin [.str (Str.ofString "value"), .int v])
      | g :: r => some (.on ⟨putKD kn (.inl (p : Nat)) (.int v), ⟨g.pos, g.at_, v :: g.st, g.lp⟩ :: r⟩)
    | _ => none

/-! ### cells of the store that one holds -/
def Own (S : Store) (C : List (Nat × O)) : Prop := (C.map (·.1)).Nodup ∧ ∀ c ∈ C, S.get c.1 = some c.2 ∧ c.1 < S.next
section
variable {S : Store} {C C1 C2 : List (Nat × O)} {c c0 c1 c2 c3 c4 c5 : Nat × O} {q : Nat} {o o' : O}
theorem Own.perm (h : Own S C) (p : C.Perm C1) : Own S C1 := ⟨(p.map _).nodup_iff.mp h.1, fun c hc => h.2 c (p.symm.subset hc)⟩
theorem Own.tail (h : Own S (c :: C)) : Own S C := ⟨(List.nodup_cons.mp h.1).2, fun c hc => h.2 c (List.mem_cons_of_mem _ hc)⟩
theorem Own.sub (h : Own S C) (s : C1.Sublist C) : Own S C1 := ⟨h.1.sublist (s.map _), fun c hc => h.2 c (s.subset hc)⟩
theorem Own.set0 (h : Own S ((q, o) :: C)) : Own (S.set q o') ((q, o') :: C) := by
  refine ⟨h.1, fun c hc => ?_⟩
  rw [Store.get_set, Store.next_set]
  rcases List.mem_cons.mp hc with rfl | hc
  · exact ⟨if_pos rfl, (h.2 (q, o) (by simp)).2⟩
  · have n : c.1 ≠ q := fun e => (List.nodup_cons.mp h.1).1 (e ▸ List.mem_map_of_mem (f := (·.1)) hc)
    rw [if_neg n]
    exact h.2 c (List.mem_cons_of_mem _ hc)
theorem Own.setN {l : List (Nat × O)} (h : Own S (l ++ (q, o) :: C)) : Own (S.set q o') (l ++ (q, o') :: C) :=
  (Own.set0 (h.perm List.perm_middle)).perm List.perm_middle.symm
theorem Own.set1 (h : Own S (c0 :: (q, o) :: C)) : Own (S.set q o') (c0 :: (q, o') :: C) := Own.setN (l := [c0]) h
theorem Own.set2 (h : Own S (c0 :: c1 :: (q, o) :: C)) : Own (S.set q o') (c0 :: c1 :: (q, o') :: C) := Own.setN (l := [c0, c1]) h
theorem Own.set3 (h : Own S (c0 :: c1 :: c2 :: (q, o) :: C)) : Own (S.set q o') (c0 :: c1 :: c2 :: (q, o') :: C) := Own.setN (l := [c0, c1, c2]) h
theorem Own.set4 (h : Own S (c0 :: c1 :: c2 :: c3 :: (q, o) :: C)) : Own (S.set q o') (c0 :: c1 :: c2 :: c3 :: (q, o') :: C) := Own.setN (l := [c0, c1, c2, c3]) h
theorem Own.set5 (h : Own S (c0 :: c1 :: c2 :: c3 :: c4 :: (q, o) :: C)) : Own (S.set q o') (c0 :: c1 :: c2 :: c3 :: c4 :: (q, o') :: C) := Own.setN (l := [c0, c1, c2, c3, c4]) h
theorem Own.set6 (h : Own S (c0 :: c1 :: c2 :: c3 :: c4 :: c5 :: (q, o) :: C)) : Own (S.set q o') (c0 :: c1 :: c2 :: c3 :: c4 :: c5 :: (q, o') :: C) := Own.setN (l := [c0, c1, c2, c3, c4, c5]) h
theorem Own.garb (h : Own S C) : Own (S.push o) C := ⟨h.1, fun c hc => by
  rw [Store.get_push, Store.next_push, if_neg (Nat.ne_of_lt (h.2 c hc).2)]
  exact ⟨(h.2 c hc).1, Nat.lt_succ_of_lt (h.2 c hc).2⟩⟩
theorem Own.push (h : Own S C) : Own (S.push o) ((S.next, o) :: C) := by
  refine ⟨List.nodup_cons.mpr ⟨fun hm => ?_, h.1⟩, fun c hc => ?_⟩
  · obtain ⟨c, hc, e⟩ := List.mem_map.mp hm
    exact absurd e (Nat.ne_of_lt (h.2 c hc).2)
  · rcases List.mem_cons.mp hc with rfl | hc
    · exact ⟨by rw [Store.get_push, if_pos rfl], Nat.lt_succ_self _⟩
    · exact (Own.garb h).2 c hc
theorem Own.nil : Own S [] := ⟨List.nodup_nil, fun _ h => nomatch h⟩
/-- the first cell: what it holds; its place is none of the others -/
theorem Own.hd (h : Own S ((q, o) :: C)) : S.get q = some o ∧ q ≠ S.next ∧ S.next ≠ q ∧ ∀ c ∈ C, q ≠ c.1 ∧ c.1 ≠ q := by
  refine ⟨(h.2 (q, o) (by simp)).1, Nat.ne_of_lt (h.2 (q, o) (by simp)).2, (Nat.ne_of_lt (h.2 (q, o) (by simp)).2).symm, fun c hc => ?_⟩
  have n : q ≠ c.1 := fun e => (List.nodup_cons.mp h.1).1 (e ▸ List.mem_map_of_mem (f := (·.1)) hc)
  exact ⟨n, n.symm⟩
end

/-! ### frames in the store -/
def encS (st : List Int) : List D := (st.map D.int).reverse
theorem encS_nil : encS [] = [] := rfl
theorem encS_cons (x : Int) (s : List Int) : encS (x :: s) = encS s ++ [.int x] := by simp [encS]
theorem encS_len (s : List Int) : (encS s).length = s.length := by simp [encS]
def refsR (qs : List Nat) : List D := (qs.map D.ref).reverse
theorem refsR_nil : refsR [] = [] := rfl
theorem refsR_cons (x : Nat) (s : List Nat) : refsR (x :: s) = refsR s ++ [.ref x] := by simp [refsR]
theorem refsR_len (s : List Nat) : (refsR s).length = s.length := by simp [refsR]
def loopC : List Nat → List (Int × Int × Int) → List (Nat × O)
  | q :: qs, (t, s, k) :: l => (q, .lst [.int t, .int s, .int k]) :: loopC qs l
  | _, _ => []
abbrev Mk := Nat → Nat → Nat → Nat → O
def frC (mk : Mk) (f : Fr) (p ps pl : Nat) (qs : List Nat) : List (Nat × O) :=
  (p, mk f.pos f.at_ ps pl) :: (ps, .lst (encS f.st)) :: (pl, .lst (refsR qs)) :: loopC qs f.lp
inductive Frames (mk : Mk) (Z : List (Nat × O)) : List Fr → List Nat → List (Nat × O) → Prop
  | nil : Frames mk Z [] [] Z
  | cons {f : Fr} {rest : List Fr} {p ps pl : Nat} {qs as : List Nat} {C : List (Nat × O)} : qs.length = f.lp.length → Frames mk Z rest as C → Frames mk Z (f :: rest) (p :: as) (frC mk f p ps pl qs ++ C)
def RepX (mk : Mk) (Z X : List (Nat × O)) (a k : Nat) (S : Store) (m : M) : Prop := ∃ as C, Frames mk Z m.fs as C ∧ Own S ((a, .lst (refsR as)) :: (k, .dct m.kn) :: (X ++ C))
theorem Frames.len {mk : Mk} {Z : List (Nat × O)} : ∀ {fs : List Fr} {as : List Nat} {C : List (Nat × O)}, Frames mk Z fs as C → as.length = fs.length
  | _, _, _, .nil => rfl
  | _, _, _, .cons _ h => by rw [List.length_cons, List.length_cons, h.len]
theorem Frames.base {mk : Mk} {Z : List (Nat × O)} : ∀ {fs : List Fr} {as : List Nat} {C : List (Nat × O)}, Frames mk Z fs as C → Z.Sublist C
  | _, _, _, .nil => List.Sublist.refl _
  | _, _, _, .cons _ h => h.base.trans (List.sublist_append_right _ _)
end PP

/-! k83, plain: one turn of the law's own run. -/
namespace PP
open PySem L2 MM
local macro_rules
  | `(tactic| walk_at "m") => `(tactic| simp only [R.bind_ok, ofString_strOk, List.length_cons, List.length_nil, List.set_cons_zero, List.set_cons_succ, if_true, if_false, reduceIte, Bool.not_true, Bool.not_false, List.any_cons, List.any_nil, List.all_cons, List.all_nil, Bool.or_true, Bool.or_false, Bool.true_or, Bool.false_or, Bool.and_true, Bool.true_and, Bool.false_and, Bool.and_false, String.reduceEq, String.reduceBEq, decide_true, decide_false, Store.get_set, Store.get_push, Store.next_set, Store.next_push, fitsN, valD_put_same, List.lookup_cons, List.lookup_nil, List.mem_cons, List.not_mem_nil, or_false, putD, Option.isSome_some, Option.isSome_none, Nat.reduceSub, Int.cast_ofNat_Int, Nat.reduceLT, Nat.reduceAdd, Nat.reduceLeDiff, Nat.reduceEqDiff, Int.reduceNeg, List.replicate, Bool.false_eq_true, reduceCtorEq, beq_self_eq_true, ne_eq, not_true_eq_false, not_false_eq_true, List.append_nil, List.nil_append, List.cons_append, and_true, true_and, Int.reduceEq, Int.reduceBEq, Int.reduceLT, Int.reduceLE, q_k_drop, q_k_ret, q_k_ifs, q_k_asg2, q_k_asg, q_k_par2, q_k_par, q_k_keep, q_k_gsub2, q_k_gsub, q_k_gcons, q_k_op, q_k_and, q_k_or, q_k_not, q_k_andE2, q_k_andE, q_k_orE2, q_k_orE, q_k_notE2, q_k_notE, q_k_if, q_k_cons2, q_k_cons, q_k_tup, q_k_fits, q_k_new, q_k_meth3, q_k_meth2, q_k_meth, q_k_make2, q_k_make, q_k_bm, q_k_gfld, q_k_chain4, q_k_chain3, q_k_chain2, q_k_chain, q_k_sl3, q_k_sl2, q_k_sl, q_k_rng2, q_e_seq, q_e_seqK, q_e_seqKr, q_e_def, q_e_end, q_e_endr, q_e_drop, q_e_ret, q_e_ifs, q_e_asg, q_e_next, q_e_par, q_e_gn, q_e_gsub, q_e_gnil, q_e_gcons, q_e_gt, q_e_c, q_e_op, q_e_un, q_e_b, q_e_asB, q_e_and, q_e_or, q_e_not, q_e_andE, q_e_orE, q_e_notE, q_e_if, q_e_nil, q_e_cons, q_e_tup, q_e_fits, q_e_new, q_e_dnew, q_e_call, q_e_meth, q_e_make, q_e_bm, q_e_fld, q_e_gfld, q_e_chain, q_e_sl, q_e_no, q_e_some, q_e_asI, q_e_isB, q_e_yes, q_e_rng1, q_e_rng2, q_e_is, q_e_v0, q_e_v1, q_e_v2, q_e_v3, q_e_v4, q_e_v5, q_e_v6, q_e_v7, q_e_v8, q_e_v9, q_e_v10, q_e_mapc, q_e_mapn, q_e_appc, q_e_appn, q_e_rep0, q_e_rep1, q_e_rep2, q_e_rep3, q_e_rep4, q_e_rep5, q_e_rep6, q_e_rep7, q_e_rep8, q_e_rep9, q_ix_ref, q_ix_tup, q_ix_rl, q_ixO_l, q_ixO_di, q_ixO_ds, q_valR_some, q_atR_0, q_atR_1, q_atR_2, q_atR_3, q_atR_4, q_atR_last, q_atR_last1, q_atR_last3, q_atR_last4, q_atR_last2, q_set_ref, q_putR_0, q_putR_1, q_putR_2, q_putR_3, q_setO_l, q_setLR_some, q_setO_di, q_setO_ds, q_getF_ref, q_getFO_i, q_setF_ref, q_setFO_i, q_asIns_ref, q_asInsO_i, q_isLst_ref, q_isLstO_l, q_app_ref, q_appO_l, q_lts, q_pop_ref, q_popO_l, q_popO_1, q_len_ref, q_lenO_l, q_lenO_d, q_len_tup, q_len_rl, q_in_ref, q_inO_di, q_inO_ds, q_inO_l, q_in_tup, q_tup_ref, q_tupO_l, q_add_ref, q_catO_l, q_add_int, q_add_tup, q_sub_int, q_lt_int, q_le_int, q_gt_int, q_ge_int, q_neg_int, q_mul_int, q_mod_int, q_fdiv_int, q_abs_int, q_int_int, q_int_bl, q_max_int, q_min_int, q_divmod_int, q_is_non, q_isnot_non, q_is_bl, q_isnot_bl, q_str_inj, q_str_beq, q_eq_str, q_ne_str, q_eq_int, q_ne_int, q_eq_ref, q_ne_ref, q_eqO_i, q_eqO_n, q_emp, q_emp0, q_nx1, q_nx2, q_nx3, q_nx4, q_nx5, q_nx6, q_nx7, q_nx8, q_nx9, q_nxa, q_nxb, q_nxc, q_nxd, q_ne_tup2, q_mul_ref, q_mulO_1, q_ext_ref, q_extO_l, q_flat_int, q_flat_str, q_flat_bl, q_flat_non, q_eqF_int, q_eqF_str, q_isB_int, q_isB_str, q_isB_bl, q_isB_tup, q_isB_rl, q_isB_non, q_isB_ref, q_isBO_l, q_isBO_d, q_isNon_ref, q_isNon_int, q_isNon_str, q_isNon_tup, q_isNon_bl, q_isNon_non, *])
def bodyL : MS := (mSeq (mAsg (mOp getIx (mVar 2) (mUn opNeg (mC (.int (1))))) (mGN 5))
  (mSeq (mAsg (mOp getIx (mOp getIx (mOp getIx (mVar 0) (mC (.int (2)))) (mOp getIx (mVar 5) (mC (.int (0))))) (mOp getIx (mVar 5) (mC (.int (1))))) (mGN 6))
  (mSeq (mAsg (mOp opAdd (mOp getIx (mVar 5) (mC (.int (1)))) (mC (.int (1)))) (mGSub (mVar 5) (mC (.int (1)))))
  (mIfS (mB (mOp opEq (mOp getIx (mVar 6) (mC (.int (0)))) (mC (.str "return")))) (mSeq (mAsg (mBM isLst bPop (mOp getIx (mVar 5) (mC (.int (2)))) mNil) (mGSub (mVar 3) (mOp getIx (mVar 5) (mC (.int (0))))))
  (mSeq (mDrop (mBM isLst bPop (mVar 2) mNil))
  (mSeq (mIfS (mB (mOp opEq (mVar 2) (mNew (mFits mNil)))) (mRet (mTup (mCons (mC (.str "value")) (mCons (mOp getIx (mVar 3) (mOp getIx (mVar 5) (mC (.int (0))))) (mCons (mVar 4) mNil))))) mNext)
  (mDrop (mBM isLst bAppend (mOp getIx (mOp getIx (mVar 2) (mUn opNeg (mC (.int (1))))) (mC (.int (2)))) (mCons (mOp getIx (mVar 3) (mOp getIx (mVar 5) (mC (.int (0))))) mNil)))))) (mIfS (mB (mOp opEq (mOp getIx (mVar 6) (mC (.int (0)))) (mC (.str "call")))) (mSeq (mAsg (mCall m_L_law_called (mCons (mVar 2) (mCons (mVar 3) (mCons (mOp getIx (mVar 6) (mC (.int (1)))) mNil)))) (mGN 7))
  (mIfS (mB (mOp opIsNot (mVar 7) (mC .non))) (mRet (mTup (mCons (mC (.str "fault")) (mCons (mC (.str "ring")) (mCons (mVar 7) (mCons (mVar 4) mNil)))))) mNext)) (mSeq (mAsg (mCall m_L_law_done (mCons (mVar 5) (mCons (mVar 6) mNil))) (mGN 8))
  (mIfS (mB (mOp opIsNot (mVar 8) (mC .non))) (mRet (mTup (mCons (mC (.str "fault")) (mCons (mVar 8) (mCons (mOp getIx (mVar 5) (mC (.int (0)))) (mCons (mVar 4) mNil)))))) mNext)))))))
def bodyM : MS := (mSeq (mAsg (mMeth "Machine" "step" m_Machine__step (mVar 2) mNil) (mGN 4))
  (mIfS (mB (mOp opIsNot (mVar 4) (mC .non))) (mRet (mOp opAdd (mVar 4) (mTup (mCons (mVar 3) mNil)))) mNext))
def codeD (st : Nat) (rs : List (List I)) : D := .tup [.str (Str.ofString "code"), .int (st : Nat), .tup (rs.map fun r => .tup (r.map I.enc))]
def PostS (ρ5 : MM.Env) (mk : Mk) (Z X : List (Nat × O)) (a k : Nat) (d : Int) (j : Nat) : R Fl → Out → Prop
  | .ok (.nx ρ) S, .on m => (∃ l, l.length = j ∧ ρ = ρ5 ++ l) ∧ RepX mk Z X a k S m
  | .ok (.rt x) S, .fin ds => x = .tup (ds ++ [.int d]) ∧ Own S Z
  | _, _ => False
abbrev mkL : Mk := fun pos at_ ps pl => .lst [.int (pos : Nat), .int (at_ : Nat), .ref ps, .ref pl]
section
variable {S : Store} {a k p s l q : Nat} {A K P Q L W : O} {C : List (Nat × O)}
theorem own5 (h : Own S ((a, A) :: (k, K) :: (p, P) :: (s, Q) :: (l, L) :: C)) : (S.get a = some A ∧ S.get k = some K ∧ S.get p = some P ∧ S.get s = some Q ∧ S.get l = some L) ∧
    ((a ≠ k ∧ k ≠ a) ∧ (a ≠ p ∧ p ≠ a) ∧ (a ≠ s ∧ s ≠ a) ∧ (a ≠ l ∧ l ≠ a)) ∧ ((k ≠ p ∧ p ≠ k) ∧ (k ≠ s ∧ s ≠ k) ∧ (k ≠ l ∧ l ≠ k)) ∧ ((p ≠ s ∧ s ≠ p) ∧ (p ≠ l ∧ l ≠ p)) ∧ (s ≠ l ∧ l ≠ s) ∧ (∀ n, a ≠ S.next + n) ∧ (∀ n, k ≠ S.next + n) ∧ a ≠ S.next ∧ k ≠ S.next ∧ p ≠ S.next ∧ s ≠ S.next ∧ l ≠ S.next ∧ (∀ n m, a ≠ S.next + n + m) ∧ (∀ n m r, a ≠ S.next + n + m + r) := by
  have h0 := h.hd
  have h1 := h.tail.hd
  have h2 := h.tail.tail.hd
  have h3 := h.tail.tail.tail.hd
  have h4 := h.tail.tail.tail.tail.hd
  have la := (h.2 (a, A) (by simp)).2
  have lk := (h.2 (k, K) (by simp)).2
  dsimp only at la lk
  simp only [List.mem_cons, forall_eq_or_imp] at h0 h1 h2 h3 h4
  refine ⟨⟨h0.1, h1.1, h2.1, h3.1, h4.1⟩, ⟨h0.2.2.2.1, h0.2.2.2.2.1, h0.2.2.2.2.2.1, h0.2.2.2.2.2.2.1⟩, ⟨h1.2.2.2.1, h1.2.2.2.2.1, h1.2.2.2.2.2.1⟩, ⟨h2.2.2.2.1, h2.2.2.2.2.1⟩, h3.2.2.2.1, ?_⟩
  exact ⟨fun n => by omega, fun n => by omega, h0.2.1, h1.2.1, h2.2.1, h3.2.1, h4.2.1, fun n m => by omega, fun n m r => by omega⟩
theorem own6 (h : Own S ((a, A) :: (k, K) :: (p, P) :: (s, Q) :: (l, L) :: (q, W) :: C)) : S.get q = some W ∧ q ≠ S.next ∧ (a ≠ q ∧ q ≠ a) ∧ (k ≠ q ∧ q ≠ k) ∧ (p ≠ q ∧ q ≠ p) ∧ (s ≠ q ∧ q ≠ s) ∧ (l ≠ q ∧ q ≠ l) := by
  have h0 := h.hd
  have h1 := h.tail.hd
  have h2 := h.tail.tail.hd
  have h3 := h.tail.tail.tail.hd
  have h4 := h.tail.tail.tail.tail.hd
  have h5 := h.tail.tail.tail.tail.tail.hd
  simp only [List.mem_cons, forall_eq_or_imp] at h0 h1 h2 h3 h4 h5
  exact ⟨h5.1, h5.2.1, h0.2.2.2.2.2.2.2.1, h1.2.2.2.2.2.2.1, h2.2.2.2.2.2.1, h3.2.2.2.2.1, h4.2.2.2.1⟩
end
theorem q_pow : opPow (.int 10) (.int 12) S = .ok (.int 1000000000000) S := by
  unfold opPow dIC
  rfl
theorem abs_gt (v : Int) : decide (1000000000000 < (if v < 0 then -v else v)) = !decide (-1000000000000 ≤ v ∧ v ≤ 1000000000000) := by
  rw [← decide_not]
  congr 1
  refine propext ?_
  split <;> omega
theorem log2_B {v : Int} (h : B v) : v.natAbs.log2 < 100 := by
  by_cases z : v.natAbs = 0
  · rw [z]; decide
  · exact (Nat.log2_lt z).mpr (by unfold B at h; omega)
def eD : Except String Int → D
  | .ok v => .int v
  | .error e => .str (Str.ofString e)
theorem fin_op (t : Int) (S : Store) : ((if decide (1000000000000 < if t < 0 then -t else t) = true then R.ok (D.str (Str.ofString "great")) S else R.ok (D.int t) S).bind retK).bind endK = R.ok (eD (if -1000000000000 ≤ t ∧ t ≤ 1000000000000 then .ok t else .error "great")) S := by
  rw [abs_gt]
  by_cases c : -1000000000000 ≤ t ∧ t ≤ 1000000000000
  · rw [if_pos c, decide_eq_true c]; rfl
  · rw [if_neg c, decide_eq_false c]; rfl
theorem fdiv_B {x y : Int} (hx : B x) : B (x.fdiv y) := by
  unfold B at *
  rcases Int.lt_trichotomy y 0 with h | h | h
  · have e : x.fdiv y = (-x).fdiv (-y) := by rw [Int.neg_fdiv_neg]
    rw [e, Int.fdiv_eq_ediv_of_nonneg _ (by omega)]
    constructor
    · rw [Int.le_ediv_iff_mul_le (by omega)]
      have : -1000000000000 * -y ≤ -1000000000000 * 1 := Int.mul_le_mul_of_nonpos_left (by omega) (by omega)
      omega
    · refine Int.ediv_le_of_le_mul (by omega) ?_
      have : 1000000000000 * 1 ≤ 1000000000000 * -y := Int.mul_le_mul_of_nonneg_left (by omega) (by omega)
      omega
  · subst h; simp
  · rw [Int.fdiv_eq_ediv_of_nonneg _ (by omega)]
    constructor
    · rw [Int.le_ediv_iff_mul_le (by omega)]
      have : -1000000000000 * y ≤ -1000000000000 * 1 := Int.mul_le_mul_of_nonpos_left (by omega) (by omega)
      omega
    · refine Int.ediv_le_of_le_mul (by omega) ?_
      have : 1000000000000 * 1 ≤ 1000000000000 * y := Int.mul_le_mul_of_nonneg_left (by omega) (by omega)
      omega
theorem q_eD_ok (v : Int) : eD (.ok v) = .int v := rfl
theorem q_eD_er (v : String) : eD (.error v) = .str (Str.ofString v) := rfl
theorem law_op (w : Op) (x y : Int) (hx : B x) (hy : B y) (S : Store) : m_L_law_operated [.str (Str.ofString w.w), .int x, .int y] S = .ok (eD (cal w x y)) S := by
  have l1 := log2_B hx
  have l2 := log2_B hy
  have l4 : (x.fdiv y).natAbs.log2 < 100 := log2_B (fdiv_B hx)
  have hm : x.natAbs.log2 + y.natAbs.log2 < 1000000 := by omega
  have hm2 : y.natAbs.log2 + (x.fdiv y).natAbs.log2 < 1000000 := by omega
  have l3 : y.natAbs.log2 < 9000 := by omega
  have p := @q_pow
  have b01 : ∀ (P : Prop) [Decidable P], (-1000000000000 ≤ (if P then (1 : Int) else 0)) ∧ (if P then (1 : Int) else 0) ≤ 1000000000000 := by
    intro P _
    split <;> omega
  unfold m_L_law_operated b_L_law_operated
  by_cases z : y = 0
  · subst z
    cases w <;> dsimp only [Op.w] <;> clear l1 l2 l4 hx hy <;> walk_at "m" <;> (try simp only [fin_op]) <;>
      simp only [cal, Op.isDiv, Op.raw, reduceCtorEq, false_and, true_and, if_false, if_true, q_eD_ok, q_eD_er, b01, and_self, decide_eq_true_eq, beq_iff_eq, Bool.false_eq_true] <;> (try rfl)
  · have zb : (y == 0) = false := by simpa using z
    cases w <;> dsimp only [Op.w] <;> clear l1 l2 l4 hx hy <;> walk_at "m" <;> (try simp only [fin_op]) <;>
      simp only [cal, Op.isDiv, Op.raw, reduceCtorEq, false_and, true_and, if_false, if_true, q_eD_ok, q_eD_er, b01, and_self, decide_eq_true_eq, beq_iff_eq, Bool.false_eq_true, z, and_false, Int.fmod_def] <;> (try rfl)
end PP

namespace PP
open PySem L2 MM
local macro_rules
  | `(tactic| walk_at "m") => `(tactic| simp only [R.bind_ok, ofString_strOk, List.length_cons, List.length_nil, List.set_cons_zero, List.set_cons_succ, if_true, if_false, reduceIte, Bool.not_true, Bool.not_false, List.any_cons, List.any_nil, List.all_cons, List.all_nil, Bool.or_true, Bool.or_false, Bool.true_or, Bool.false_or, Bool.and_true, Bool.true_and, Bool.false_and, Bool.and_false, String.reduceEq, String.reduceBEq, decide_true, decide_false, Store.get_set, Store.get_push, Store.next_set, Store.next_push, fitsN, valD_put_same, List.lookup_cons, List.lookup_nil, List.mem_cons, List.not_mem_nil, or_false, putD, Option.isSome_some, Option.isSome_none, Nat.reduceSub, Int.cast_ofNat_Int, Nat.reduceLT, Nat.reduceAdd, Nat.reduceLeDiff, Nat.reduceEqDiff, Int.reduceNeg, List.replicate, Bool.false_eq_true, reduceCtorEq, beq_self_eq_true, ne_eq, not_true_eq_false, not_false_eq_true, List.append_nil, List.nil_append, List.cons_append, and_true, true_and, Int.reduceEq, Int.reduceBEq, Int.reduceLT, Int.reduceLE, q_k_drop, q_k_ret, q_k_ifs, q_k_asg2, q_k_asg, q_k_par2, q_k_par, q_k_keep, q_k_gsub2, q_k_gsub, q_k_gcons, q_k_op, q_k_and, q_k_or, q_k_not, q_k_andE2, q_k_andE, q_k_orE2, q_k_orE, q_k_notE2, q_k_notE, q_k_if, q_k_cons2, q_k_cons, q_k_tup, q_k_fits, q_k_new, q_k_meth3, q_k_meth2, q_k_meth, q_k_make2, q_k_make, q_k_bm, q_k_gfld, q_k_chain4, q_k_chain3, q_k_chain2, q_k_chain, q_k_sl3, q_k_sl2, q_k_sl, q_k_rng2, q_e_seq, q_e_seqK, q_e_seqKr, q_e_def, q_e_end, q_e_endr, q_e_drop, q_e_ret, q_e_ifs, q_e_asg, q_e_next, q_e_par, q_e_gn, q_e_gsub, q_e_gnil, q_e_gcons, q_e_gt, q_e_c, q_e_op, q_e_un, q_e_b, q_e_asB, q_e_and, q_e_or, q_e_not, q_e_andE, q_e_orE, q_e_notE, q_e_if, q_e_nil, q_e_cons, q_e_tup, q_e_fits, q_e_new, q_e_dnew, q_e_call, q_e_meth, q_e_make, q_e_bm, q_e_fld, q_e_gfld, q_e_chain, q_e_sl, q_e_no, q_e_some, q_e_asI, q_e_isB, q_e_yes, q_e_rng1, q_e_rng2, q_e_is, q_e_v0, q_e_v1, q_e_v2, q_e_v3, q_e_v4, q_e_v5, q_e_v6, q_e_v7, q_e_v8, q_e_v9, q_e_v10, q_e_mapc, q_e_mapn, q_e_appc, q_e_appn, q_e_rep0, q_e_rep1, q_e_rep2, q_e_rep3, q_e_rep4, q_e_rep5, q_e_rep6, q_e_rep7, q_e_rep8, q_e_rep9, q_ix_ref, q_ix_tup, q_ix_rl, q_ixO_l, q_ixO_di, q_ixO_ds, q_valR_some, q_atR_0, q_atR_1, q_atR_2, q_atR_3, q_atR_4, q_atR_last, q_atR_last1, q_atR_last3, q_atR_last4, q_atR_last2, q_set_ref, q_putR_0, q_putR_1, q_putR_2, q_putR_3, q_setO_l, q_setLR_some, q_setO_di, q_setO_ds, q_getF_ref, q_getFO_i, q_setF_ref, q_setFO_i, q_asIns_ref, q_asInsO_i, q_isLst_ref, q_isLstO_l, q_app_ref, q_appO_l, q_lts, q_pop_ref, q_popO_l, q_popO_1, q_len_ref, q_lenO_l, q_lenO_d, q_len_tup, q_len_rl, q_in_ref, q_inO_di, q_inO_ds, q_inO_l, q_in_tup, q_tup_ref, q_tupO_l, q_add_ref, q_catO_l, q_add_int, q_add_tup, q_sub_int, q_lt_int, q_le_int, q_gt_int, q_ge_int, q_neg_int, q_mul_int, q_mod_int, q_fdiv_int, q_abs_int, q_int_int, q_int_bl, q_max_int, q_min_int, q_divmod_int, q_is_non, q_isnot_non, q_is_bl, q_isnot_bl, q_str_inj, q_str_beq, q_eq_str, q_ne_str, q_eq_int, q_ne_int, q_eq_ref, q_ne_ref, q_eqO_i, q_eqO_n, q_emp, q_emp0, q_nx1, q_nx2, q_nx3, q_nx4, q_nx5, q_nx6, q_nx7, q_nx8, q_nx9, q_nxa, q_nxb, q_nxc, q_nxd, q_ne_tup2, q_mul_ref, q_mulO_1, q_ext_ref, q_extO_l, q_flat_int, q_flat_str, q_flat_bl, q_flat_non, q_eqF_int, q_eqF_str, q_isB_int, q_isB_str, q_isB_bl, q_isB_tup, q_isB_rl, q_isB_non, q_isB_ref, q_isBO_l, q_isBO_d, q_isNon_ref, q_isNon_int, q_isNon_str, q_isNon_tup, q_isNon_bl, q_isNon_non, *])
theorem Own.last5 {S : Store} {C Z : List (Nat × O)} {c0 c1 c2 c3 c4 : Nat × O} (h : Own S (c0 :: c1 :: c2 :: c3 :: c4 :: C)) (z : Z.Sublist C) : Own S Z := h.sub (.cons _ (.cons _ (.cons _ (.cons _ (.cons _ z)))))
theorem Own.rot5 {S : Store} {C : List (Nat × O)} {c c0 c1 c2 c3 c4 : Nat × O} (h : Own S (c :: c0 :: c1 :: c2 :: c3 :: c4 :: C)) : Own S (c0 :: c1 :: c2 :: c3 :: c4 :: c :: C) := h.perm (List.perm_middle (l₁ := [c0, c1, c2, c3, c4])).symm
theorem Own.drop5 {S : Store} {C : List (Nat × O)} {c c0 c1 c2 c3 c4 : Nat × O} (h : Own S (c0 :: c1 :: c2 :: c3 :: c4 :: c :: C)) : Own S (c0 :: c1 :: c2 :: c3 :: c4 :: C) := (h.perm (List.perm_middle (l₁ := [c0, c1, c2, c3, c4]))).tail
theorem loopC_cons (q : Nat) (qs : List Nat) (t s k : Int) (l : List (Int × Int × Int)) : loopC (q :: qs) ((t, s, k) :: l) = (q, .lst [.int t, .int s, .int k]) :: loopC qs l := rfl
theorem posD_len (fs : List Fr) : (posD fs).length = fs.length := by simp [posD]
theorem PostS.nx {ρ5 : MM.Env} {mk : Mk} {Z X : List (Nat × O)} {a k : Nat} {d : Int} {j : Nat} {S : Store} {m : M} {l : MM.Env} (hl : l.length = j) (h : RepX mk Z X a k S m) : PostS ρ5 mk Z X a k d j (.ok (.nx (ρ5 ++ l)) S) (.on m) := ⟨⟨l, hl, rfl⟩, h⟩
theorem law_step1 {rs : List (List I)} {r : List I} {start pos at_ a k : Nat} {most d : Int} {S : Store} {kn : List (Key × D)} {st : List Int} {lp : List (Int × Int × Int)} {rest : List Fr} {ins : I} {out : Out} {o5 o6 o7 o8 : Option D}
    (hnc : ∀ n, ins ≠ .call n) (hr : rs[pos]? = some r) (hi : r[at_]? = some ins) (hs : step kn rest pos at_ st lp ins = some out) (hB : ∀ v ∈ st, B v) (hkn : kn.length ≤ 15000000) (hst : st.length ≤ 1000000) (hlp : lp.length ≤ 1000000) (hfs : rest.length ≤ 1000000) (hg : ∀ g ∈ rest, g.st.length ≤ 16000000)
    (R : RepX mkL Z [] a k S ⟨kn, ⟨pos, at_, st, lp⟩ :: rest⟩) :
    PostS [some (codeD start rs), some (.int most), some (.ref a), some (.ref k), some (.int d)] mkL Z [] a k d 4 (bodyL [some (codeD start rs), some (.int most), some (.ref a), some (.ref k), some (.int d), o5, o6, o7, o8] S) out := by
  obtain ⟨as, C, hF, hO⟩ := R
  cases hF with
  | @cons _ _ p ps pl qs as C hq hF =>
  dsimp only at hq hO hF
  have hal := hF.len
  have hF' := hF
  have hq' := hq
  have hz := hF.base.trans (List.sublist_append_right (loopC qs lp) C)
  simp only [frC, List.nil_append, List.cons_append] at hO
  have fx := own5 hO
  have e1 : ∀ T, atR (rs.map fun r => .tup (r.map I.enc)) (pos : Nat) T = .ok (.tup (r.map I.enc)) T := fun T => q_atR_k (by rw [List.getElem?_map, hr]; rfl)
  have e2 : ∀ T, atR (r.map I.enc) (at_ : Nat) T = .ok ins.enc T := fun T => q_atR_k (by rw [List.getElem?_map, hi]; rfl)
  have l1 : (encS st).length ≤ 16000000 := by rw [encS_len]; omega
  have l2 : (refsR qs).length ≤ 16000000 := by rw [refsR_len]; omega
  have l3 : (refsR as).length ≤ 15000000 := by rw [refsR_len]; omega
  rw [refsR_cons] at fx
  unfold codeD
  cases ins with
  | push i =>
    cases hs
    clear hr hi hB hF' hq' hal hst hlp hfs
    unfold bodyL m_L_law_done b_L_law_done
    simp only [I.enc] at e2 ⊢
    walk_at "m"
    rw [← encS_cons]
    exact PostS.nx (l := [_, _, _, _]) rfl ⟨p :: as, _, .cons (f := ⟨pos, at_ + 1, i :: st, lp⟩) hq hF, hO.set2.set3⟩
  | go n =>
    cases hs
    clear hr hi hB hF' hq' hal hst hlp hfs
    unfold bodyL m_L_law_done b_L_law_done
    simp only [I.enc] at e2 ⊢
    walk_at "m"
    exact PostS.nx (l := [_, _, _, _]) rfl ⟨p :: as, _, .cons (f := ⟨pos, n, st, lp⟩) hq hF, hO.set2.set2⟩
  | soFar =>
    cases lp with
    | nil => cases hs
    | cons x l =>
      obtain ⟨t, s0, k0⟩ := x
      cases qs with
      | nil => cases hq
      | cons q qs =>
        cases hs
        rw [loopC_cons] at hO
        have fy := own6 hO
        rw [refsR_cons] at fx
        clear hr hi hB hF' hq' hal hst hlp hfs
        unfold bodyL m_L_law_done b_L_law_done
        simp only [I.enc] at e2 ⊢
        walk_at "m"
        rw [← encS_cons]
        exact PostS.nx (l := [_, _, _, _]) rfl ⟨p :: as, _, .cons (f := ⟨pos, at_ + 1, s0 :: st, (t, s0, k0) :: l⟩) hq hF, hO.set2.set3⟩
  | turn =>
    cases lp with
    | nil => cases hs
    | cons x l =>
      obtain ⟨t, s0, k0⟩ := x
      cases qs with
      | nil => cases hq
      | cons q qs =>
        cases hs
        rw [loopC_cons] at hO
        have fy := own6 hO
        rw [refsR_cons] at fx
        clear hr hi hB hF' hq' hal hst hlp hfs
        unfold bodyL m_L_law_done b_L_law_done
        simp only [I.enc] at e2 ⊢
        walk_at "m"
        rw [← encS_cons]
        exact PostS.nx (l := [_, _, _, _]) rfl ⟨p :: as, _, .cons (f := ⟨pos, at_ + 1, k0 :: st, (t, s0, k0) :: l⟩) hq hF, hO.set2.set3⟩
  | op w =>
    cases st with
    | nil => cases hs
    | cons y st =>
      cases st with
      | nil => cases hs
      | cons x st =>
        have hc := law_op w x y (hB x (by simp)) (hB y (by simp))
        simp only [step] at hs
        cases hcal : cal w x y with
        | ok v =>
          rw [hcal] at hs hc
          cases hs
          simp only [q_eD_ok] at hc
          have l4 : (encS st).length ≤ 16000000 := by rw [encS_len]; simp only [List.length_cons] at hst; omega
          simp only [encS_cons] at fx l1 hO
          clear hr hi hB hF' hq' hal hst hlp hfs
          unfold bodyL m_L_law_done b_L_law_done
          simp only [I.enc] at e2 ⊢
          cases w <;> dsimp only [Op.w] at * <;> walk_at "m" <;> rw [← encS_cons v] <;>
            exact PostS.nx (l := [_, _, _, _]) rfl ⟨p :: as, _, .cons (f := ⟨pos, at_ + 1, v :: st, lp⟩) hq hF, hO.set2.set3.set3.set3⟩
        | error e =>
          rw [hcal] at hs hc
          cases hs
          simp only [q_eD_er] at hc
          have l4 : (encS st).length ≤ 16000000 := by rw [encS_len]; simp only [List.length_cons] at hst; omega
          simp only [encS_cons] at fx l1 hO
          clear hr hi hB hF' hq' hal hst hlp hfs
          unfold bodyL m_L_law_done b_L_law_done
          simp only [I.enc] at e2 ⊢
          cases w <;> dsimp only [Op.w] at * <;> walk_at "m" <;> exact ⟨rfl, (hO.set2.set3.set3).last5 hz⟩
  | «unless» n =>
    cases st with
    | nil => cases hs
    | cons y st =>
      have l4 : (encS st).length ≤ 16000000 := by rw [encS_len]; simp only [List.length_cons] at hst; omega
      simp only [encS_cons] at fx l1 hO
      clear hr hi hB hF' hq' hal hst hlp hfs
      unfold bodyL m_L_law_done b_L_law_done
      simp only [I.enc] at e2 ⊢
      cases hs
      by_cases z : y = 0
      · subst z
        walk_at "m"
        exact PostS.nx (l := [_, _, _, _]) rfl ⟨p :: as, _, .cons (f := ⟨pos, n, st, lp⟩) hq hF, hO.set2.set3.set2⟩
      · have zb : (y == 0) = false := by simpa using z
        walk_at "m"
        exact PostS.nx (l := [_, _, _, _]) rfl ⟨p :: as, _, .cons (f := ⟨pos, at_ + 1, st, lp⟩) hq hF, hO.set2.set3.set2⟩
  | opn n =>
    cases st with
    | nil => cases hs
    | cons y st =>
      cases st with
      | nil => cases hs
      | cons x st =>
        have l4 : (encS st).length ≤ 16000000 := by rw [encS_len]; simp only [List.length_cons] at hst; omega
        simp only [encS_cons] at fx l1 hO
        simp only [step] at hs
        clear hr hi hB hF' hq' hal hst hlp hfs
        unfold bodyL m_L_law_done b_L_law_done m_L_law_opened b_L_law_opened
        simp only [I.enc] at e2 ⊢
        by_cases h1 : 200 < x
        · rw [if_pos h1] at hs
          cases hs
          have h1b := decide_eq_true h1
          walk_at "m"
          exact ⟨rfl, (hO.set2.set3.set3).last5 hz⟩
        · have h1b := decide_eq_false h1
          rw [if_neg h1] at hs
          by_cases h2 : x < 1
          · rw [if_pos h2] at hs
            cases hs
            have h2b := decide_eq_true h2
            walk_at "m"
            rw [← encS_cons y]
            exact PostS.nx (l := [_, _, _, _]) rfl ⟨p :: as, _, .cons (f := ⟨pos, n, y :: st, lp⟩) hq hF, hO.set2.set3.set3.set3.set2⟩
          · rw [if_neg h2] at hs
            cases hs
            have h2b := decide_eq_false h2
            walk_at "m"
            rw [← refsR_cons]
            refine PostS.nx (l := [_, _, _, _]) rfl ⟨p :: as, _, .cons (f := ⟨pos, at_ + 1, st, (x, y, 0) :: lp⟩) (ps := ps) (pl := pl) (qs := S.next :: qs) (by simp only [List.length_cons, hq]) hF, ?_⟩
            exact hO.set2.set3.set3.push.rot5.set4
  | close n =>
    cases st with
    | nil => cases hs
    | cons y st =>
      cases lp with
      | nil => cases hs
      | cons z l =>
        obtain ⟨t, s0, k0⟩ := z
        cases qs with
        | nil => cases hq
        | cons q qs =>
          rw [loopC_cons] at hO
          have fy := own6 hO
          rw [refsR_cons] at fx
          have l4 : (encS st).length ≤ 16000000 := by rw [encS_len]; simp only [List.length_cons] at hst; omega
          simp only [encS_cons] at fx l1 hO
          simp only [step] at hs
          clear hr hi hB hF' hq' hal hst hlp hfs
          unfold bodyL m_L_law_done b_L_law_done m_L_law_closed b_L_law_closed
          simp only [I.enc] at e2 ⊢
          by_cases h1 : k0 + 1 < t
          · rw [if_pos h1] at hs
            cases hs
            have h1b := decide_eq_true h1
            walk_at "m"
            exact PostS.nx (l := [_, _, _, _]) rfl ⟨p :: as, _, .cons (f := ⟨pos, n, st, (t, y, k0 + 1) :: l⟩) (qs := q :: qs) (ps := ps) (pl := pl) hq hF, hO.set2.set3.set5.set5.set2⟩
          · rw [if_neg h1] at hs
            cases hs
            have h1b := decide_eq_false h1
            walk_at "m"
            rw [← encS_cons y]
            exact PostS.nx (l := [_, _, _, _]) rfl ⟨p :: as, _, .cons (f := ⟨pos, at_ + 1, y :: st, l⟩) (qs := qs) (ps := ps) (pl := pl) (Nat.succ.inj hq) hF, hO.set2.set3.set5.set5.set4.set3.drop5⟩
  | ret =>
    cases st with
    | nil => cases hs
    | cons y st =>
      have l4 : (encS st).length ≤ 16000000 := by rw [encS_len]; simp only [List.length_cons] at hst; omega
      simp only [encS_cons] at fx l1 hO
      clear hr hi hB hq' hal hst hlp
      unfold bodyL
      simp only [I.enc] at e2 ⊢
      cases hF with
      | nil =>
        cases hs
        rw [refsR_nil] at fx
        walk_at "m"
        exact ⟨rfl, (hO.set2.set3.set1.set0.garb).last5 hz⟩
      | @cons g rest p1 ps1 pl1 qs1 as C1 hq1 hF1 =>
        cases hs
        rw [refsR_cons p1] at fx
        have hA := own5 (hO.sub (.cons₂ _ (.cons₂ _ (.cons _ (.cons _ (.cons _ (List.sublist_append_right _ _)))))))
        have hP := own5 (hO.sub (.cons _ (.cons _ (.cons₂ _ (.cons₂ _ (.cons _ (List.sublist_append_right _ _)))))))
        have l5 : (encS g.st).length ≤ 16000000 := by rw [encS_len]; exact hg g (by simp)
        walk_at "m"
        have h6 := (((((hO.set2 (o' := mkL pos (at_ + 1) ps pl)).set3 (o' := .lst (encS st))).set1 (o' := .dct (putKD kn (.inl (pos : Nat)) (.int y)))).set0 (o' := .lst (refsR as ++ [D.ref p1]))).garb (o := .lst [])).sub (.cons₂ _ (.cons₂ _ (.cons _ (.cons _ (.cons _ (List.sublist_append_right _ _))))))
        rw [← encS_cons y, ← refsR_cons p1]
        rw [← refsR_cons p1] at h6
        exact PostS.nx (l := [_, _, _, _]) rfl ⟨p1 :: as, _, .cons (f := ⟨g.pos, g.at_, y :: g.st, g.lp⟩) (qs := qs1) (ps := ps1) (pl := pl1) hq1 hF1, h6.set3⟩
  | call n => exact absurd rfl (hnc n)
end PP

namespace PP
open PySem L2 MM
local macro_rules
  | `(tactic| walk_at "m") => `(tactic| simp only [R.bind_ok, ofString_strOk, List.length_cons, List.length_nil, List.set_cons_zero, List.set_cons_succ, if_true, if_false, reduceIte, Bool.not_true, Bool.not_false, List.any_cons, List.any_nil, List.all_cons, List.all_nil, Bool.or_true, Bool.or_false, Bool.true_or, Bool.false_or, Bool.and_true, Bool.true_and, Bool.false_and, Bool.and_false, String.reduceEq, String.reduceBEq, decide_true, decide_false, Store.get_set, Store.get_push, Store.next_set, Store.next_push, fitsN, valD_put_same, List.lookup_cons, List.lookup_nil, List.mem_cons, List.not_mem_nil, or_false, putD, Option.isSome_some, Option.isSome_none, Nat.reduceSub, Int.cast_ofNat_Int, Nat.reduceLT, Nat.reduceAdd, Nat.reduceLeDiff, Nat.reduceEqDiff, Int.reduceNeg, List.replicate, Bool.false_eq_true, reduceCtorEq, beq_self_eq_true, ne_eq, not_true_eq_false, not_false_eq_true, List.append_nil, List.nil_append, List.cons_append, and_true, true_and, Int.reduceEq, Int.reduceBEq, Int.reduceLT, Int.reduceLE, q_k_drop, q_k_ret, q_k_ifs, q_k_asg2, q_k_asg, q_k_par2, q_k_par, q_k_keep, q_k_gsub2, q_k_gsub, q_k_gcons, q_k_op, q_k_and, q_k_or, q_k_not, q_k_andE2, q_k_andE, q_k_orE2, q_k_orE, q_k_notE2, q_k_notE, q_k_if, q_k_cons2, q_k_cons, q_k_tup, q_k_fits, q_k_new, q_k_meth3, q_k_meth2, q_k_meth, q_k_make2, q_k_make, q_k_bm, q_k_gfld, q_k_chain4, q_k_chain3, q_k_chain2, q_k_chain, q_k_sl3, q_k_sl2, q_k_sl, q_k_rng2, q_e_seq, q_e_seqK, q_e_seqKr, q_e_def, q_e_end, q_e_endr, q_e_drop, q_e_ret, q_e_ifs, q_e_asg, q_e_next, q_e_par, q_e_gn, q_e_gsub, q_e_gnil, q_e_gcons, q_e_gt, q_e_c, q_e_op, q_e_un, q_e_b, q_e_asB, q_e_and, q_e_or, q_e_not, q_e_andE, q_e_orE, q_e_notE, q_e_if, q_e_nil, q_e_cons, q_e_tup, q_e_fits, q_e_new, q_e_dnew, q_e_call, q_e_meth, q_e_make, q_e_bm, q_e_fld, q_e_gfld, q_e_chain, q_e_sl, q_e_no, q_e_some, q_e_asI, q_e_isB, q_e_yes, q_e_rng1, q_e_rng2, q_e_is, q_e_v0, q_e_v1, q_e_v2, q_e_v3, q_e_v4, q_e_v5, q_e_v6, q_e_v7, q_e_v8, q_e_v9, q_e_v10, q_e_mapc, q_e_mapn, q_e_appc, q_e_appn, q_e_rep0, q_e_rep1, q_e_rep2, q_e_rep3, q_e_rep4, q_e_rep5, q_e_rep6, q_e_rep7, q_e_rep8, q_e_rep9, q_ix_ref, q_ix_tup, q_ix_rl, q_ixO_l, q_ixO_di, q_ixO_ds, q_valR_some, q_atR_0, q_atR_1, q_atR_2, q_atR_3, q_atR_4, q_atR_last, q_atR_last1, q_atR_last3, q_atR_last4, q_atR_last2, q_set_ref, q_putR_0, q_putR_1, q_putR_2, q_putR_3, q_setO_l, q_setLR_some, q_setO_di, q_setO_ds, q_getF_ref, q_getFO_i, q_setF_ref, q_setFO_i, q_asIns_ref, q_asInsO_i, q_isLst_ref, q_isLstO_l, q_app_ref, q_appO_l, q_lts, q_pop_ref, q_popO_l, q_popO_1, q_len_ref, q_lenO_l, q_lenO_d, q_len_tup, q_len_rl, q_in_ref, q_inO_di, q_inO_ds, q_inO_l, q_in_tup, q_tup_ref, q_tupO_l, q_add_ref, q_catO_l, q_add_int, q_add_tup, q_sub_int, q_lt_int, q_le_int, q_gt_int, q_ge_int, q_neg_int, q_mul_int, q_mod_int, q_fdiv_int, q_abs_int, q_int_int, q_int_bl, q_max_int, q_min_int, q_divmod_int, q_is_non, q_isnot_non, q_is_bl, q_isnot_bl, q_str_inj, q_str_beq, q_eq_str, q_ne_str, q_eq_int, q_ne_int, q_eq_ref, q_ne_ref, q_eqO_i, q_eqO_n, q_emp, q_emp0, q_nx1, q_nx2, q_nx3, q_nx4, q_nx5, q_nx6, q_nx7, q_nx8, q_nx9, q_nxa, q_nxb, q_nxc, q_nxd, q_ne_tup2, q_mul_ref, q_mulO_1, q_ext_ref, q_extO_l, q_flat_int, q_flat_str, q_flat_bl, q_flat_non, q_eqF_int, q_eqF_str, q_isB_int, q_isB_str, q_isB_bl, q_isB_tup, q_isB_rl, q_isB_non, q_isB_ref, q_isBO_l, q_isBO_d, q_isNon_ref, q_isNon_int, q_isNon_str, q_isNon_tup, q_isNon_bl, q_isNon_non, *])
theorem Frames.mem {mk : Mk} {Z : List (Nat × O)} {S : Store} : ∀ {fs : List Fr} {as : List Nat} {C : List (Nat × O)}, Frames mk Z fs as C → (∀ c ∈ C, S.get c.1 = some c.2) → ∀ p ∈ as, ∃ pos at_ ps pl, S.get p = some (mk pos at_ ps pl)
  | _, _, _, .nil, _, p, hp => nomatch hp
  | _, _, _, .cons (f := f) (p := p0) (ps := ps) (pl := pl) hq h, hc, p, hp => by
    rcases List.mem_cons.mp hp with rfl | hp
    · exact ⟨_, _, _, _, hc (p, mk f.pos f.at_ ps pl) (by simp [frC])⟩
    · exact h.mem (fun c hm => hc c (List.mem_append_right _ hm)) p hp
theorem Frames.map {mk : Mk} {Z : List (Nat × O)} {S : Store} {g : Nat → D} (hg : ∀ p pos at_ ps pl, S.get p = some (mk pos at_ ps pl) → g p = .int (pos : Nat)) : ∀ {fs : List Fr} {as : List Nat} {C : List (Nat × O)}, Frames mk Z fs as C → (∀ c ∈ C, S.get c.1 = some c.2) → as.map g = fs.map fun f => D.int (f.pos : Nat)
  | _, _, _, .nil, _ => rfl
  | _, _, _, .cons (f := f) (p := p0) (ps := ps) (pl := pl) hq h, hc => by
    rw [List.map_cons, List.map_cons, hg p0 _ _ _ _ (hc (p0, mk f.pos f.at_ ps pl) (by simp [frC])), h.map hg fun c hm => hc c (List.mem_append_right _ hm)]
theorem refsR_map {g : D → D} {as : List Nat} {fs : List Fr} (h : as.map (fun p => g (.ref p)) = fs.map fun f => D.int (f.pos : Nat)) : (refsR as).map g = posD fs := by
  unfold refsR posD
  rw [List.map_reverse, List.map_map, ← h]
  rfl
theorem posD_flat (fs : List Fr) : (posD fs).all D.flat = true := by
  simp [posD, q_flat_int, List.all_eq_true]
/-- the ring's least place, as either side finds it -/
theorem ring_ok {fs : List Fr} {n : Nat} (h : ((posD fs).any fun e => e.eqF (.int (n : Nat))) = true) : ∃ i, ringMin (posD fs) n = some i ∧ ∃ f ∈ fs, i = (f.pos : Nat) := by
  obtain ⟨j, h1, h2⟩ := firstD_some (k := 0) h
  have e : posD fs = fs.reverse.map fun f => D.int (f.pos : Nat) := by rw [posD, List.map_reverse]
  unfold ringMin
  rw [h1]
  dsimp only
  have hl : j < (posD fs).length := by omega
  rw [cutD_drop hl, e, ← List.map_drop, intsD_map]
  have hd : (fs.reverse.drop j) ≠ [] := by
    intro z
    have := congrArg List.length z
    rw [List.length_drop, List.length_reverse, List.length_nil] at this
    rw [posD_len] at hl
    omega
  cases hc : fs.reverse.drop j with
  | nil => exact absurd hc hd
  | cons f l =>
    refine ⟨_, rfl, ?_⟩
    have hm := minL_mem (l.map fun f => ((f.pos : Nat) : Int)) ((f.pos : Nat) : Int)
    rw [← List.map_cons (f := fun f : Fr => ((f.pos : Nat) : Int))] at hm
    obtain ⟨f', hf', e'⟩ := List.mem_map.mp hm
    exact ⟨f', List.mem_reverse.mp (List.mem_of_mem_drop (i := j) (by rw [hc]; exact hf')), e'.symm⟩
/-- what the two sides do with the open places -/
theorem ring_calc {fs : List Fr} {n q : Nat} {i : Int} {S : Store} (h : ringMin (posD fs) n = some i) (hq : S.get q = some (.lst (posD fs))) : ∃ j : Nat, bIndex (.ref q) [.int (n : Nat)] S = .ok (.int (j : Nat)) S ∧ getSl (.ref q) (some (j : Nat)) none S = .ok (.ref S.next) (S.push (.lst (cutD (posD fs) (some (j : Nat)) none))) ∧
    bMinL [.ref S.next] (S.push (.lst (cutD (posD fs) (some (j : Nat)) none))) = .ok (.int i) (S.push (.lst (cutD (posD fs) (some (j : Nat)) none))) := by
  unfold ringMin at h
  split at h
  · rename_i j hj
    refine ⟨j, ?_, ?_, ?_⟩
    · unfold bIndex
      dsimp only
      rw [hq]
      dsimp only
      rw [posD_flat, hj]
      rfl
    · unfold getSl
      dsimp only
      rw [hq]
    · unfold bMinL
      dsimp only
      rw [Store.get_push, if_pos rfl]
      dsimp only
      split at h
      · rename_i i' is hi
        try rw [hi]
        cases h
        rfl
      · cases h
  · cases h
theorem Own.call5 {S : Store} {R : List (Nat × O)} {f l s a k : Nat × O} (h : Own S (f :: l :: s :: a :: k :: R)) : Own S (a :: k :: f :: s :: l :: R) :=
  h.perm ((List.perm_middle (l₁ := [f, l, s])).trans (((List.perm_middle (l₁ := [f, l, s]) (l₂ := R)).trans (((List.Perm.swap s l R).cons f).cons k)).cons a))
def posL (S : Store) : D → D
  | .ref p => match S.get p with
    | some (.lst (x :: _)) => x
    | _ => .non
  | _ => .non
def CalledP (Z : List (Nat × O)) (a k : Nat) (out : Out) (d : D) (T : Store) : Prop := (d = .non ∧ ∃ m, out = .on m ∧ RepX mkL Z [] a k T m) ∨ ∃ i, d = .int i ∧ out = .fin [.str (Str.ofString "fault"), .str (Str.ofString "ring"), .int i] ∧ Own T Z
theorem law_called {a k n pos at_ : Nat} {S : Store} {kn : List (Key × D)} {st : List Int} {lp : List (Int × Int × Int)} {rest : List Fr} {out : Out}
    (hs : step kn rest pos at_ st lp (.call n) = some out) (hst : st.length ≤ 1000000) (hfs : rest.length ≤ 1000000)
    (R : RepX mkL Z [] a k S ⟨kn, ⟨pos, at_ + 1, st, lp⟩ :: rest⟩) :
    OkD (m_L_law_called [.ref a, .ref k, .int (n : Nat)] S) (CalledP Z a k out) := by
  obtain ⟨as, C, hF0, hO0⟩ := R
  have hF := hF0
  cases hF with
  | @cons _ _ p ps pl qs as C hq hF =>
  dsimp only at hq hO0 hF hF0
  have hal := hF.len
  have hz := hF.base.trans (List.sublist_append_right (loopC qs lp) C)
  have hO := hO0
  simp only [frC, List.nil_append, List.cons_append] at hO
  have fx := own5 hO
  have l1 : (encS st).length ≤ 16000000 := by rw [encS_len]; omega
  have l3 : (refsR as).length ≤ 15000000 := by rw [refsR_len]; omega
  have l6 : (refsR (p :: as)).length ≤ 16000000 := by rw [refsR_len, List.length_cons]; omega
  have lc : ∀ T, T = S → mLc (mIS (mVar 0)) [4] (mGN 4) mYes (mOp getIx (mVar 4) (mC (.int (0)))) [some (.ref a), some (.ref k), some (.int (n : Nat)), none, none] T = .ok (posD (⟨pos, at_, st, lp⟩ :: rest)) T := by
    rintro T rfl
    have hall : ∀ c ∈ frC mkL ⟨pos, at_ + 1, st, lp⟩ p ps pl qs ++ C, T.get c.1 = some c.2 := fun c hc => (hO0.2 c (by simp only [List.nil_append, List.mem_cons]; exact .inr (.inr hc))).1
    rw [lc_list (n := a) (ds := refsR (p :: as)) (f := posL T) rfl fx.1.1 ?_ l6, refsR_map (fs := ⟨pos, at_ + 1, st, lp⟩ :: rest)]
    · rfl
    · refine Frames.map (mk := mkL) (S := T) ?_ hF0 hall
      intro q pos' at' ps' pl' hg
      simp only [posL, hg]
    · intro d hd
      simp only [refsR, List.mem_reverse, List.mem_map] at hd
      obtain ⟨q, hq, rfl⟩ := hd
      obtain ⟨pos', at', ps', pl', hg⟩ := Frames.mem hF0 hall q hq
      clear fx hO hO0 hall
      simp only [wipeE, posL]
      walk_at "m"
  have lc := lc S rfl
  rw [refsR_cons] at fx
  have lp1 : (refsR as ++ [D.ref p]).length ≤ 16000000 := by rw [← refsR_cons]; exact l6
  unfold m_L_law_called b_L_law_called
  simp only [step] at hs
  cases hv : valD kn (.inl (n : Nat)) with
  | some v =>
    rw [hv] at hs
    cases v with
    | int v =>
      cases hs
      clear hal hst hfs
      walk_at "m"
      rw [← encS_cons]
      exact OkD.ok (Q := CalledP Z a k _) (.inl ⟨rfl, _, rfl, p :: as, _, .cons (f := ⟨pos, at_ + 1, v :: st, lp⟩) hq hF, hO.set3⟩)
    | _ => cases hs
  | none =>
    rw [hv] at hs
    dsimp only at hs
    by_cases hr : ((posD (⟨pos, at_, st, lp⟩ :: rest)).any fun e => e.eqF (.int (n : Nat))) = true
    · rw [if_pos hr] at hs
      obtain ⟨i, h1, _⟩ := ring_ok hr
      rw [h1] at hs
      cases hs
      obtain ⟨j, c1, c2, c3⟩ := ring_calc (q := S.next) (S := S.push (.lst (posD (⟨pos, at_, st, lp⟩ :: rest)))) h1 (by rw [Store.get_push, if_pos rfl])
      simp only [Store.next_push] at c2 c3
      have hfl := posD_flat (⟨pos, at_, st, lp⟩ :: rest)
      clear hal hst hfs
      walk_at "m"
      exact OkD.ok (Q := CalledP Z a k _) (.inr ⟨i, rfl, rfl, (hO.garb.garb).last5 hz⟩)
    · rw [if_neg hr] at hs
      cases hs
      have hr' := Bool.eq_false_iff.mpr hr
      have hfl := posD_flat (⟨pos, at_, st, lp⟩ :: rest)
      clear hal hst hfs
      walk_at "m"
      rw [← refsR_cons p, ← refsR_cons]
      exact OkD.ok (Q := CalledP Z a k _) (.inl ⟨rfl, _, rfl, _ :: p :: as, _, .cons (f := ⟨n, 0, [], []⟩) (qs := []) rfl hF0, hO0.garb.push.push.push.set3.call5⟩)
theorem law_step_call {rs : List (List I)} {r : List I} {start pos at_ a k n : Nat} {most d : Int} {S : Store} {kn : List (Key × D)} {st : List Int} {lp : List (Int × Int × Int)} {rest : List Fr} {out : Out} {o5 o6 o7 o8 : Option D}
    (hr : rs[pos]? = some r) (hi : r[at_]? = some (.call n)) (hs : step kn rest pos at_ st lp (.call n) = some out) (hst : st.length ≤ 1000000) (hfs : rest.length ≤ 1000000)
    (R : RepX mkL Z [] a k S ⟨kn, ⟨pos, at_, st, lp⟩ :: rest⟩) :
    PostS [some (codeD start rs), some (.int most), some (.ref a), some (.ref k), some (.int d)] mkL Z [] a k d 4 (bodyL [some (codeD start rs), some (.int most), some (.ref a), some (.ref k), some (.int d), o5, o6, o7, o8] S) out := by
  obtain ⟨as, C, hF, hO⟩ := R
  cases hF with
  | @cons _ _ p ps pl qs as C hq hF =>
  dsimp only at hq hO hF
  simp only [frC, List.nil_append, List.cons_append] at hO
  have fx := own5 hO
  have e1 : ∀ T, atR (rs.map fun r => .tup (r.map I.enc)) (pos : Nat) T = .ok (.tup (r.map I.enc)) T := fun T => q_atR_k (by rw [List.getElem?_map, hr]; rfl)
  have e2 : ∀ T, atR (r.map I.enc) (at_ : Nat) T = .ok (I.enc (.call n)) T := fun T => q_atR_k (by rw [List.getElem?_map, hi]; rfl)
  rw [refsR_cons] at fx
  obtain ⟨x, T, hc, hp⟩ := (law_called (S := S.set p (mkL pos (at_ + 1) ps pl)) hs hst hfs ⟨p :: as, _, .cons (f := ⟨pos, at_ + 1, st, lp⟩) hq hF, hO.set2⟩).ex
  have hc' : m_L_law_called [.ref a, .ref k, .int (n : Nat)] (S.set p (.lst [.int (pos : Nat), .int ((at_ : Nat) + 1), .ref ps, .ref pl])) = .ok x T := hc
  unfold codeD
  clear hr hi hF hq hst hfs hc hs
  rcases hp with ⟨rfl, m, rfl, hR⟩ | ⟨i, rfl, rfl, hZ⟩
  · unfold bodyL
    simp only [I.enc] at e2 ⊢
    walk_at "m"
    exact PostS.nx (l := [_, _, _, _]) rfl hR
  · unfold bodyL
    simp only [I.enc] at e2 ⊢
    walk_at "m"
    exact ⟨rfl, hZ⟩
end PP

namespace PP
open PySem L2 MM
local macro_rules
  | `(tactic| walk_at "m") => `(tactic| simp only [R.bind_ok, ofString_strOk, List.length_cons, List.length_nil, List.set_cons_zero, List.set_cons_succ, if_true, if_false, reduceIte, Bool.not_true, Bool.not_false, List.any_cons, List.any_nil, List.all_cons, List.all_nil, Bool.or_true, Bool.or_false, Bool.true_or, Bool.false_or, Bool.and_true, Bool.true_and, Bool.false_and, Bool.and_false, String.reduceEq, String.reduceBEq, decide_true, decide_false, Store.get_set, Store.get_push, Store.next_set, Store.next_push, fitsN, valD_put_same, List.lookup_cons, List.lookup_nil, List.mem_cons, List.not_mem_nil, or_false, putD, Option.isSome_some, Option.isSome_none, Nat.reduceSub, Int.cast_ofNat_Int, Nat.reduceLT, Nat.reduceAdd, Nat.reduceLeDiff, Nat.reduceEqDiff, Int.reduceNeg, List.replicate, Bool.false_eq_true, reduceCtorEq, beq_self_eq_true, ne_eq, not_true_eq_false, not_false_eq_true, List.append_nil, List.nil_append, List.cons_append, and_true, true_and, Int.reduceEq, Int.reduceBEq, Int.reduceLT, Int.reduceLE, q_k_drop, q_k_ret, q_k_ifs, q_k_asg2, q_k_asg, q_k_par2, q_k_par, q_k_keep, q_k_gsub2, q_k_gsub, q_k_gcons, q_k_op, q_k_and, q_k_or, q_k_not, q_k_andE2, q_k_andE, q_k_orE2, q_k_orE, q_k_notE2, q_k_notE, q_k_if, q_k_cons2, q_k_cons, q_k_tup, q_k_fits, q_k_new, q_k_meth3, q_k_meth2, q_k_meth, q_k_make2, q_k_make, q_k_bm, q_k_gfld, q_k_chain4, q_k_chain3, q_k_chain2, q_k_chain, q_k_sl3, q_k_sl2, q_k_sl, q_k_rng2, q_e_seq, q_e_seqK, q_e_seqKr, q_e_def, q_e_end, q_e_endr, q_e_drop, q_e_ret, q_e_ifs, q_e_asg, q_e_next, q_e_par, q_e_gn, q_e_gsub, q_e_gnil, q_e_gcons, q_e_gt, q_e_c, q_e_op, q_e_un, q_e_b, q_e_asB, q_e_and, q_e_or, q_e_not, q_e_andE, q_e_orE, q_e_notE, q_e_if, q_e_nil, q_e_cons, q_e_tup, q_e_fits, q_e_new, q_e_dnew, q_e_call, q_e_meth, q_e_make, q_e_bm, q_e_fld, q_e_gfld, q_e_chain, q_e_sl, q_e_no, q_e_some, q_e_asI, q_e_isB, q_e_yes, q_e_rng1, q_e_rng2, q_e_is, q_e_v0, q_e_v1, q_e_v2, q_e_v3, q_e_v4, q_e_v5, q_e_v6, q_e_v7, q_e_v8, q_e_v9, q_e_v10, q_e_mapc, q_e_mapn, q_e_appc, q_e_appn, q_e_rep0, q_e_rep1, q_e_rep2, q_e_rep3, q_e_rep4, q_e_rep5, q_e_rep6, q_e_rep7, q_e_rep8, q_e_rep9, q_ix_ref, q_ix_tup, q_ix_rl, q_ixO_l, q_ixO_di, q_ixO_ds, q_valR_some, q_atR_0, q_atR_1, q_atR_2, q_atR_3, q_atR_4, q_atR_last, q_atR_last1, q_atR_last3, q_atR_last4, q_atR_last2, q_set_ref, q_putR_0, q_putR_1, q_putR_2, q_putR_3, q_setO_l, q_setLR_some, q_setO_di, q_setO_ds, q_getF_ref, q_getFO_i, q_setF_ref, q_setFO_i, q_asIns_ref, q_asInsO_i, q_isLst_ref, q_isLstO_l, q_app_ref, q_appO_l, q_lts, q_pop_ref, q_popO_l, q_popO_1, q_len_ref, q_lenO_l, q_lenO_d, q_len_tup, q_len_rl, q_in_ref, q_inO_di, q_inO_ds, q_inO_l, q_in_tup, q_tup_ref, q_tupO_l, q_add_ref, q_catO_l, q_add_int, q_add_tup, q_sub_int, q_lt_int, q_le_int, q_gt_int, q_ge_int, q_neg_int, q_mul_int, q_mod_int, q_fdiv_int, q_abs_int, q_int_int, q_int_bl, q_max_int, q_min_int, q_divmod_int, q_is_non, q_isnot_non, q_is_bl, q_isnot_bl, q_str_inj, q_str_beq, q_eq_str, q_ne_str, q_eq_int, q_ne_int, q_eq_ref, q_ne_ref, q_eqO_i, q_eqO_n, q_emp, q_emp0, q_nx1, q_nx2, q_nx3, q_nx4, q_nx5, q_nx6, q_nx7, q_nx8, q_nx9, q_nxa, q_nxb, q_nxc, q_nxd, q_ne_tup2, q_mul_ref, q_mulO_1, q_ext_ref, q_extO_l, q_flat_int, q_flat_str, q_flat_bl, q_flat_non, q_eqF_int, q_eqF_str, q_isB_int, q_isB_str, q_isB_bl, q_isB_tup, q_isB_rl, q_isB_non, q_isB_ref, q_isBO_l, q_isBO_d, q_isNon_ref, q_isNon_int, q_isNon_str, q_isNon_tup, q_isNon_bl, q_isNon_non, *])
abbrev mkM : Mk := fun pos at_ ps pl => .ins (Str.ofString "Frame") [(Str.ofString "position", .int (pos : Nat)), (Str.ofString "place", .int (at_ : Nat)), (Str.ofString "stack", .ref ps), (Str.ofString "loops", .ref pl)]
abbrev machO (rs : List (List I)) (k a : Nat) : O := .ins (Str.ofString "Machine") [(Str.ofString "routines", .tup (rs.map fun r => .tup (r.map I.enc))), (Str.ofString "known", .ref k), (Str.ofString "frames", .ref a)]
theorem abs_le (v : Int) : decide ((if v < 0 then -v else v) ≤ 1000000000000) = decide (-1000000000000 ≤ v ∧ v ≤ 1000000000000) := by
  congr 1
  refine propext ?_
  split <;> omega
theorem fin_op2 (t : Int) (S : Store) : ((if decide ((if t < 0 then -t else t) ≤ 1000000000000) = true then R.ok (D.int t) S else R.ok (D.str (Str.ofString "great")) S).bind retK).bind endK = R.ok (eD (if -1000000000000 ≤ t ∧ t ≤ 1000000000000 then .ok t else .error "great")) S := by
  rw [abs_le]
  by_cases c : -1000000000000 ≤ t ∧ t ≤ 1000000000000
  · rw [if_pos c, decide_eq_true c]; rfl
  · rw [if_neg c, decide_eq_false c]; rfl
theorem mach_op (w : Op) (x y : Int) (hx : B x) (hy : B y) (S : Store) : m_operated [.str (Str.ofString w.w), .int x, .int y] S = .ok (eD (cal w x y)) S := by
  have l1 := log2_B hx
  have l2 := log2_B hy
  have hm : x.natAbs.log2 + y.natAbs.log2 < 1000000 := by omega
  have l3 : y.natAbs.log2 < 9000 := by omega
  have b01 : ∀ (P : Prop) [Decidable P], (-1000000000000 ≤ (if P then (1 : Int) else 0)) ∧ (if P then (1 : Int) else 0) ≤ 1000000000000 := by
    intro P _
    split <;> omega
  unfold m_operated b_operated
  by_cases z : y = 0
  · subst z
    cases w <;> dsimp only [Op.w] <;> clear l1 l2 hx hy <;> walk_at "m" <;> (try simp only [fin_op2]) <;>
      simp only [cal, Op.isDiv, Op.raw, reduceCtorEq, false_and, true_and, if_false, if_true, q_eD_ok, q_eD_er, b01, and_self, decide_eq_true_eq, beq_iff_eq, Bool.false_eq_true] <;> (try rfl)
  · have zb : (y == 0) = false := by simpa using z
    cases w <;> dsimp only [Op.w] <;> clear l1 l2 hx hy <;> walk_at "m" <;> (try simp only [fin_op2]) <;>
      simp only [cal, Op.isDiv, Op.raw, reduceCtorEq, false_and, true_and, if_false, if_true, q_eD_ok, q_eD_er, b01, and_self, decide_eq_true_eq, beq_iff_eq, Bool.false_eq_true, z, and_false] <;> (try rfl)
theorem ownM {S : Store} {a k h p s l : Nat} {A K X P Q L : O} {C : List (Nat × O)} (o : Own S ((a, A) :: (k, K) :: (h, X) :: (p, P) :: (s, Q) :: (l, L) :: C)) : S.get h = some X ∧ h ≠ S.next ∧ (h ≠ a ∧ a ≠ h) ∧ (h ≠ k ∧ k ≠ h) ∧ (h ≠ p ∧ p ≠ h) ∧ (h ≠ s ∧ s ≠ h) ∧ (h ≠ l ∧ l ≠ h) ∧
    Own S ((a, A) :: (k, K) :: (p, P) :: (s, Q) :: (l, L) :: C) := by
  have o1 := o.perm (List.perm_middle (l₁ := [(a, A), (k, K)]))
  have h0 := o1.hd
  simp only [List.mem_cons, List.cons_append, List.nil_append, forall_eq_or_imp] at h0
  exact ⟨h0.1, h0.2.1, h0.2.2.2.1, h0.2.2.2.2.1, h0.2.2.2.2.2.1, h0.2.2.2.2.2.2.1, h0.2.2.2.2.2.2.2.1, o1.tail⟩
theorem Own.last6 {S : Store} {C Z : List (Nat × O)} {c0 c1 c2 c3 c4 c5 : Nat × O} (h : Own S (c0 :: c1 :: c2 :: c3 :: c4 :: c5 :: C)) (z : Z.Sublist C) : Own S Z := h.sub (.cons _ (.cons _ (.cons _ (.cons _ (.cons _ (.cons _ z))))))
theorem Own.rot6 {S : Store} {C : List (Nat × O)} {c c0 c1 c2 c3 c4 c5 : Nat × O} (h : Own S (c :: c0 :: c1 :: c2 :: c3 :: c4 :: c5 :: C)) : Own S (c0 :: c1 :: c2 :: c3 :: c4 :: c5 :: c :: C) := h.perm (List.perm_middle (l₁ := [c0, c1, c2, c3, c4, c5])).symm
theorem Own.drop6 {S : Store} {C : List (Nat × O)} {c c0 c1 c2 c3 c4 c5 : Nat × O} (h : Own S (c0 :: c1 :: c2 :: c3 :: c4 :: c5 :: c :: C)) : Own S (c0 :: c1 :: c2 :: c3 :: c4 :: c5 :: C) := (h.perm (List.perm_middle (l₁ := [c0, c1, c2, c3, c4, c5]))).tail
theorem mach_step1 {rs : List (List I)} {r : List I} {start pos at_ a k h : Nat} {most d : Int} {S : Store} {kn : List (Key × D)} {st : List Int} {lp : List (Int × Int × Int)} {rest : List Fr} {ins : I} {out : Out} {o5 : Option D}
    (hnc : ∀ n, ins ≠ .call n) (hr : rs[pos]? = some r) (hi : r[at_]? = some ins) (hs : step kn rest pos at_ st lp ins = some out) (hB : ∀ v ∈ st, B v) (hkn : kn.length ≤ 15000000) (hst : st.length ≤ 1000000) (hlp : lp.length ≤ 1000000) (hfs : rest.length ≤ 1000000) (hg : ∀ g ∈ rest, g.st.length ≤ 16000000)
    (R : RepX mkM Z [(h, machO rs k a)] a k S ⟨kn, ⟨pos, at_, st, lp⟩ :: rest⟩) :
    PostS [some (codeD start rs), some (.int most), some (.ref h), some (.int d)] mkM Z [(h, machO rs k a)] a k d 1 (bodyM [some (codeD start rs), some (.int most), some (.ref h), some (.int d), o5] S) out := by
  obtain ⟨as, C, hF, hO⟩ := R
  cases hF with
  | @cons _ _ p ps pl qs as C hq hF =>
  dsimp only at hq hO hF
  have hal := hF.len
  have hF' := hF
  have hq' := hq
  have hz := hF.base.trans (List.sublist_append_right (loopC qs lp) C)
  simp only [frC, List.nil_append, List.cons_append] at hO
  have fm := ownM hO
  have fx := own5 fm.2.2.2.2.2.2.2
  have e1 : ∀ T, atR (rs.map fun r => .tup (r.map I.enc)) (pos : Nat) T = .ok (.tup (r.map I.enc)) T := fun T => q_atR_k (by rw [List.getElem?_map, hr]; rfl)
  have e2 : ∀ T, atR (r.map I.enc) (at_ : Nat) T = .ok ins.enc T := fun T => q_atR_k (by rw [List.getElem?_map, hi]; rfl)
  have l1 : (encS st).length ≤ 16000000 := by rw [encS_len]; omega
  have l2 : (refsR qs).length ≤ 16000000 := by rw [refsR_len]; omega
  have l3 : (refsR as).length ≤ 15000000 := by rw [refsR_len]; omega
  rw [refsR_cons] at fx
  unfold codeD
  cases ins with
  | push i =>
    cases hs
    clear hr hi hB hF' hq' hal hst hlp hfs hnc
    unfold bodyM m_Machine__step b_Machine__step
    simp only [I.enc] at e2 ⊢
    walk_at "m"
    rw [← encS_cons]
    exact PostS.nx (l := [_]) rfl ⟨p :: as, _, .cons (f := ⟨pos, at_ + 1, i :: st, lp⟩) hq hF, hO.set3.set4⟩
  | go n =>
    cases hs
    clear hr hi hB hF' hq' hal hst hlp hfs hnc
    unfold bodyM m_Machine__step b_Machine__step
    simp only [I.enc] at e2 ⊢
    walk_at "m"
    exact PostS.nx (l := [_]) rfl ⟨p :: as, _, .cons (f := ⟨pos, n, st, lp⟩) hq hF, hO.set3.set3⟩
  | soFar =>
    cases lp with
    | nil => cases hs
    | cons x l =>
      obtain ⟨t, s0, k0⟩ := x
      cases qs with
      | nil => cases hq
      | cons q qs =>
        cases hs
        rw [loopC_cons] at hO
        have fy := own6 (ownM hO).2.2.2.2.2.2.2
        rw [refsR_cons q] at fx
        clear hr hi hB hF' hq' hal hst hlp hfs hnc
        unfold bodyM m_Machine__step b_Machine__step m_Machine__do_lone b_Machine__do_lone c_OPERATIONS
        simp only [I.enc] at e2 ⊢
        walk_at "m"
        rw [← encS_cons]
        exact PostS.nx (l := [_]) rfl ⟨p :: as, _, .cons (f := ⟨pos, at_ + 1, s0 :: st, (t, s0, k0) :: l⟩) hq hF, hO.set3.set4⟩
  | turn =>
    cases lp with
    | nil => cases hs
    | cons x l =>
      obtain ⟨t, s0, k0⟩ := x
      cases qs with
      | nil => cases hq
      | cons q qs =>
        cases hs
        rw [loopC_cons] at hO
        have fy := own6 (ownM hO).2.2.2.2.2.2.2
        rw [refsR_cons q] at fx
        clear hr hi hB hF' hq' hal hst hlp hfs hnc
        unfold bodyM m_Machine__step b_Machine__step m_Machine__do_lone b_Machine__do_lone c_OPERATIONS
        simp only [I.enc] at e2 ⊢
        walk_at "m"
        rw [← encS_cons]
        exact PostS.nx (l := [_]) rfl ⟨p :: as, _, .cons (f := ⟨pos, at_ + 1, k0 :: st, (t, s0, k0) :: l⟩) hq hF, hO.set3.set4⟩
  | op w =>
    cases st with
    | nil => cases hs
    | cons y st =>
      cases st with
      | nil => cases hs
      | cons x st =>
        have hc := mach_op w x y (hB x (by simp)) (hB y (by simp))
        simp only [step] at hs
        cases hcal : cal w x y with
        | ok v =>
          rw [hcal] at hs hc
          cases hs
          simp only [q_eD_ok] at hc
          have l4 : (encS st).length ≤ 16000000 := by rw [encS_len]; simp only [List.length_cons] at hst; omega
          simp only [encS_cons] at fx l1 hO
          clear hr hi hB hF' hq' hal hst hlp hfs hnc
          unfold bodyM m_Machine__step b_Machine__step m_Machine__do_lone b_Machine__do_lone m_Machine__operate b_Machine__operate c_OPERATIONS
          simp only [I.enc] at e2 ⊢
          cases w <;> dsimp only [Op.w] at * <;> walk_at "m" <;> rw [← encS_cons v] <;>
            exact PostS.nx (l := [_]) rfl ⟨p :: as, _, .cons (f := ⟨pos, at_ + 1, v :: st, lp⟩) hq hF, hO.set3.set4.set4.set4⟩
        | error e =>
          rw [hcal] at hs hc
          cases hs
          simp only [q_eD_er] at hc
          have l4 : (encS st).length ≤ 16000000 := by rw [encS_len]; simp only [List.length_cons] at hst; omega
          simp only [encS_cons] at fx l1 hO
          clear hr hi hB hF' hq' hal hst hlp hfs hnc
          unfold bodyM m_Machine__step b_Machine__step m_Machine__do_lone b_Machine__do_lone m_Machine__operate b_Machine__operate m_Machine__stop b_Machine__stop c_OPERATIONS
          simp only [I.enc] at e2 ⊢
          cases w <;> dsimp only [Op.w] at * <;> walk_at "m" <;> exact ⟨rfl, (hO.set3.set4.set4).last6 hz⟩
  | «unless» n =>
    cases st with
    | nil => cases hs
    | cons y st =>
      have l4 : (encS st).length ≤ 16000000 := by rw [encS_len]; simp only [List.length_cons] at hst; omega
      simp only [encS_cons] at fx l1 hO
      clear hr hi hB hF' hq' hal hst hlp hfs hnc
      unfold bodyM m_Machine__step b_Machine__step
      simp only [I.enc] at e2 ⊢
      cases hs
      by_cases z : y = 0
      · subst z
        walk_at "m"
        exact PostS.nx (l := [_]) rfl ⟨p :: as, _, .cons (f := ⟨pos, n, st, lp⟩) hq hF, hO.set3.set4.set3⟩
      · have zb : (y == 0) = false := by simpa using z
        walk_at "m"
        exact PostS.nx (l := [_]) rfl ⟨p :: as, _, .cons (f := ⟨pos, at_ + 1, st, lp⟩) hq hF, hO.set3.set4⟩
  | opn n =>
    cases st with
    | nil => cases hs
    | cons y st =>
      cases st with
      | nil => cases hs
      | cons x st =>
        have l4 : (encS st).length ≤ 16000000 := by rw [encS_len]; simp only [List.length_cons] at hst; omega
        simp only [encS_cons] at fx l1 hO
        simp only [step] at hs
        clear hr hi hB hF' hq' hal hst hlp hfs hnc
        unfold bodyM m_Machine__step b_Machine__step m_Machine__open_loop b_Machine__open_loop
        simp only [I.enc] at e2 ⊢
        by_cases h1 : 200 < x
        · rw [if_pos h1] at hs
          cases hs
          have h1b := decide_eq_true h1
          unfold m_Machine__stop b_Machine__stop
          walk_at "m"
          exact ⟨rfl, (hO.set3.set4.set4).last6 hz⟩
        · have h1b := decide_eq_false h1
          rw [if_neg h1] at hs
          by_cases h2 : x < 1
          · rw [if_pos h2] at hs
            cases hs
            have h2b := decide_eq_true h2
            walk_at "m"
            rw [← encS_cons y]
            exact PostS.nx (l := [_]) rfl ⟨p :: as, _, .cons (f := ⟨pos, n, y :: st, lp⟩) hq hF, hO.set3.set4.set4.set4.set3⟩
          · rw [if_neg h2] at hs
            cases hs
            have h2b := decide_eq_false h2
            walk_at "m"
            rw [← refsR_cons]
            exact PostS.nx (l := [_]) rfl ⟨p :: as, _, .cons (f := ⟨pos, at_ + 1, st, (x, y, 0) :: lp⟩) (ps := ps) (pl := pl) (qs := S.next :: qs) (by simp only [List.length_cons, hq]) hF, hO.set3.set4.set4.push.rot6.set5⟩
  | close n =>
    cases st with
    | nil => cases hs
    | cons y st =>
      cases lp with
      | nil => cases hs
      | cons z l =>
        obtain ⟨t, s0, k0⟩ := z
        cases qs with
        | nil => cases hq
        | cons q qs =>
          rw [loopC_cons] at hO
          have fy := own6 (ownM hO).2.2.2.2.2.2.2
          rw [refsR_cons q] at fx
          have l4 : (encS st).length ≤ 16000000 := by rw [encS_len]; simp only [List.length_cons] at hst; omega
          simp only [encS_cons] at fx l1 hO
          simp only [step] at hs
          clear hr hi hB hF' hq' hal hst hlp hfs hnc
          unfold bodyM m_Machine__step b_Machine__step m_Machine__close_loop b_Machine__close_loop
          simp only [I.enc] at e2 ⊢
          by_cases h1 : k0 + 1 < t
          · rw [if_pos h1] at hs
            cases hs
            have h1b := decide_eq_true h1
            walk_at "m"
            exact PostS.nx (l := [_]) rfl ⟨p :: as, _, .cons (f := ⟨pos, n, st, (t, y, k0 + 1) :: l⟩) (qs := q :: qs) (ps := ps) (pl := pl) hq hF, hO.set3.set4.set6.set6.set3⟩
          · rw [if_neg h1] at hs
            cases hs
            have h1b := decide_eq_false h1
            walk_at "m"
            rw [← encS_cons y]
            exact PostS.nx (l := [_]) rfl ⟨p :: as, _, .cons (f := ⟨pos, at_ + 1, y :: st, l⟩) (qs := qs) (ps := ps) (pl := pl) (Nat.succ.inj hq) hF, hO.set3.set4.set6.set6.set5.set4.drop6⟩
  | ret =>
    cases st with
    | nil => cases hs
    | cons y st =>
      have l4 : (encS st).length ≤ 16000000 := by rw [encS_len]; simp only [List.length_cons] at hst; omega
      simp only [encS_cons] at fx l1 hO
      clear hr hi hB hq' hal hst hlp hnc
      unfold bodyM m_Machine__step b_Machine__step m_Machine__do_lone b_Machine__do_lone m_Machine__come_back b_Machine__come_back c_OPERATIONS
      simp only [I.enc] at e2 ⊢
      cases hF with
      | nil =>
        cases hs
        rw [refsR_nil] at fx
        walk_at "m"
        exact ⟨rfl, (hO.set3.set0.set4.set1.garb).last6 hz⟩
      | @cons g rest p1 ps1 pl1 qs1 as C1 hq1 hF1 =>
        cases hs
        rw [refsR_cons p1] at fx
        have hA := own5 (hO.sub (.cons₂ _ (.cons₂ _ (.cons _ (.cons _ (.cons _ (.cons _ (List.sublist_append_right _ _))))))))
        have hP := own5 (hO.sub (.cons _ (.cons _ (.cons _ (.cons₂ _ (.cons₂ _ (.cons _ (List.sublist_append_right _ _))))))))
        have hM := own5 (hO.sub (.cons₂ _ (.cons _ (.cons₂ _ (.cons _ (.cons _ (.cons _ (List.sublist_append_right _ _))))))))
        have l5 : (encS g.st).length ≤ 16000000 := by rw [encS_len]; exact hg g (by simp)
        walk_at "m"
        have h6 := (((((hO.set3 (o' := mkM pos (at_ + 1) ps pl)).set0 (o' := .lst (refsR as ++ [D.ref p1]))).set4 (o' := .lst (encS st))).set1 (o' := .dct (putKD kn (.inl (pos : Nat)) (.int y)))).garb (o := .lst [])).sub (.cons₂ _ (.cons₂ _ (.cons₂ _ (.cons _ (.cons _ (.cons _ (List.sublist_append_right _ _)))))))
        rw [← encS_cons y, ← refsR_cons p1]
        rw [← refsR_cons p1] at h6
        exact PostS.nx (l := [_]) rfl ⟨p1 :: as, _, .cons (f := ⟨g.pos, g.at_, y :: g.st, g.lp⟩) (qs := qs1) (ps := ps1) (pl := pl1) hq1 hF1, h6.set4⟩
  | call n => exact absurd rfl (hnc n)
end PP

namespace PP
open PySem L2 MM
local macro_rules
  | `(tactic| walk_at "m") => `(tactic| simp only [R.bind_ok, ofString_strOk, List.length_cons, List.length_nil, List.set_cons_zero, List.set_cons_succ, if_true, if_false, reduceIte, Bool.not_true, Bool.not_false, List.any_cons, List.any_nil, List.all_cons, List.all_nil, Bool.or_true, Bool.or_false, Bool.true_or, Bool.false_or, Bool.and_true, Bool.true_and, Bool.false_and, Bool.and_false, String.reduceEq, String.reduceBEq, decide_true, decide_false, Store.get_set, Store.get_push, Store.next_set, Store.next_push, fitsN, valD_put_same, List.lookup_cons, List.lookup_nil, List.mem_cons, List.not_mem_nil, or_false, putD, Option.isSome_some, Option.isSome_none, Nat.reduceSub, Int.cast_ofNat_Int, Nat.reduceLT, Nat.reduceAdd, Nat.reduceLeDiff, Nat.reduceEqDiff, Int.reduceNeg, List.replicate, Bool.false_eq_true, reduceCtorEq, beq_self_eq_true, ne_eq, not_true_eq_false, not_false_eq_true, List.append_nil, List.nil_append, List.cons_append, and_true, true_and, Int.reduceEq, Int.reduceBEq, Int.reduceLT, Int.reduceLE, q_k_drop, q_k_ret, q_k_ifs, q_k_asg2, q_k_asg, q_k_par2, q_k_par, q_k_keep, q_k_gsub2, q_k_gsub, q_k_gcons, q_k_op, q_k_and, q_k_or, q_k_not, q_k_andE2, q_k_andE, q_k_orE2, q_k_orE, q_k_notE2, q_k_notE, q_k_if, q_k_cons2, q_k_cons, q_k_tup, q_k_fits, q_k_new, q_k_meth3, q_k_meth2, q_k_meth, q_k_make2, q_k_make, q_k_bm, q_k_gfld, q_k_chain4, q_k_chain3, q_k_chain2, q_k_chain, q_k_sl3, q_k_sl2, q_k_sl, q_k_rng2, q_e_seq, q_e_seqK, q_e_seqKr, q_e_def, q_e_end, q_e_endr, q_e_drop, q_e_ret, q_e_ifs, q_e_asg, q_e_next, q_e_par, q_e_gn, q_e_gsub, q_e_gnil, q_e_gcons, q_e_gt, q_e_c, q_e_op, q_e_un, q_e_b, q_e_asB, q_e_and, q_e_or, q_e_not, q_e_andE, q_e_orE, q_e_notE, q_e_if, q_e_nil, q_e_cons, q_e_tup, q_e_fits, q_e_new, q_e_dnew, q_e_call, q_e_meth, q_e_make, q_e_bm, q_e_fld, q_e_gfld, q_e_chain, q_e_sl, q_e_no, q_e_some, q_e_asI, q_e_isB, q_e_yes, q_e_rng1, q_e_rng2, q_e_is, q_e_v0, q_e_v1, q_e_v2, q_e_v3, q_e_v4, q_e_v5, q_e_v6, q_e_v7, q_e_v8, q_e_v9, q_e_v10, q_e_mapc, q_e_mapn, q_e_appc, q_e_appn, q_e_rep0, q_e_rep1, q_e_rep2, q_e_rep3, q_e_rep4, q_e_rep5, q_e_rep6, q_e_rep7, q_e_rep8, q_e_rep9, q_ix_ref, q_ix_tup, q_ix_rl, q_ixO_l, q_ixO_di, q_ixO_ds, q_valR_some, q_atR_0, q_atR_1, q_atR_2, q_atR_3, q_atR_4, q_atR_last, q_atR_last1, q_atR_last3, q_atR_last4, q_atR_last2, q_set_ref, q_putR_0, q_putR_1, q_putR_2, q_putR_3, q_setO_l, q_setLR_some, q_setO_di, q_setO_ds, q_getF_ref, q_getFO_i, q_setF_ref, q_setFO_i, q_asIns_ref, q_asInsO_i, q_isLst_ref, q_isLstO_l, q_app_ref, q_appO_l, q_lts, q_pop_ref, q_popO_l, q_popO_1, q_len_ref, q_lenO_l, q_lenO_d, q_len_tup, q_len_rl, q_in_ref, q_inO_di, q_inO_ds, q_inO_l, q_in_tup, q_tup_ref, q_tupO_l, q_add_ref, q_catO_l, q_add_int, q_add_tup, q_sub_int, q_lt_int, q_le_int, q_gt_int, q_ge_int, q_neg_int, q_mul_int, q_mod_int, q_fdiv_int, q_abs_int, q_int_int, q_int_bl, q_max_int, q_min_int, q_divmod_int, q_is_non, q_isnot_non, q_is_bl, q_isnot_bl, q_str_inj, q_str_beq, q_eq_str, q_ne_str, q_eq_int, q_ne_int, q_eq_ref, q_ne_ref, q_eqO_i, q_eqO_n, q_emp, q_emp0, q_nx1, q_nx2, q_nx3, q_nx4, q_nx5, q_nx6, q_nx7, q_nx8, q_nx9, q_nxa, q_nxb, q_nxc, q_nxd, q_ne_tup2, q_mul_ref, q_mulO_1, q_ext_ref, q_extO_l, q_flat_int, q_flat_str, q_flat_bl, q_flat_non, q_eqF_int, q_eqF_str, q_isB_int, q_isB_str, q_isB_bl, q_isB_tup, q_isB_rl, q_isB_non, q_isB_ref, q_isBO_l, q_isBO_d, q_isNon_ref, q_isNon_int, q_isNon_str, q_isNon_tup, q_isNon_bl, q_isNon_non, *])
def posM (S : Store) : D → D
  | .ref p => match S.get p with
    | some (.ins _ ((_, x) :: _)) => x
    | _ => .non
  | _ => .non
def CalledM (Z X : List (Nat × O)) (a k : Nat) (out : Out) (d : D) (T : Store) : Prop := (d = .non ∧ ∃ m, out = .on m ∧ RepX mkM Z X a k T m) ∨ ∃ ds, d = .tup ds ∧ ds.length = 3 ∧ out = .fin ds ∧ Own T Z
theorem Own.callM {S : Store} {R : List (Nat × O)} {f l s a k h : Nat × O} (o : Own S (l :: s :: f :: a :: k :: h :: R)) : Own S (a :: k :: h :: f :: s :: l :: R) :=
  o.perm ((List.perm_middle (l₁ := [l, s, f])).trans (((List.perm_middle (l₁ := [l, s, f]) (l₂ := h :: R)).trans (((List.perm_middle (l₁ := [l, s, f]) (l₂ := R)).trans ((((List.perm_middle (l₁ := [l, s]) (l₂ := R)).trans ((List.Perm.swap s l R).cons f))).cons h)).cons k)).cons a))
theorem mach_called {rs : List (List I)} {a k h n pos at_ : Nat} {S : Store} {kn : List (Key × D)} {st : List Int} {lp : List (Int × Int × Int)} {rest : List Fr} {out : Out}
    (hs : step kn rest pos at_ st lp (.call n) = some out) (hst : st.length ≤ 1000000) (hfs : rest.length ≤ 1000000)
    (R : RepX mkM Z [(h, machO rs k a)] a k S ⟨kn, ⟨pos, at_ + 1, st, lp⟩ :: rest⟩) :
    OkD (m_Machine__call [.ref h, .int (n : Nat)] S) (CalledM Z [(h, machO rs k a)] a k out) := by
  obtain ⟨as, C, hF0, hO0⟩ := R
  have hF := hF0
  cases hF with
  | @cons _ _ p ps pl qs as C hq hF =>
  dsimp only at hq hO0 hF hF0
  have hal := hF.len
  have hz := hF.base.trans (List.sublist_append_right (loopC qs lp) C)
  have hO := hO0
  simp only [frC, List.nil_append, List.cons_append] at hO
  have fm := ownM hO
  have fx := own5 fm.2.2.2.2.2.2.2
  have l1 : (encS st).length ≤ 16000000 := by rw [encS_len]; omega
  have l3 : (refsR as).length ≤ 15000000 := by rw [refsR_len]; omega
  have l6 : (refsR (p :: as)).length ≤ 16000000 := by rw [refsR_len, List.length_cons]; omega
  have ln : h < S.next := (hO.2 (h, machO rs k a) (by simp)).2
  have lh : ∀ n, h ≠ S.next + n := fun n => by omega
  have lc : ∀ T, T = S → mLc (mIS (mFld [Str.ofString "Machine"] (Str.ofString "frames") (mVar 0))) [3] (mGN 3) mYes (mFld [Str.ofString "Frame"] (Str.ofString "position") (mVar 3)) [some (.ref h), some (.int (n : Nat)), none, none] T = .ok (posD (⟨pos, at_, st, lp⟩ :: rest)) T := by
    rintro T rfl
    have hall : ∀ c ∈ frC mkM ⟨pos, at_ + 1, st, lp⟩ p ps pl qs ++ C, T.get c.1 = some c.2 := fun c hc => (hO0.2 c (by simp only [List.cons_append, List.nil_append, List.mem_cons]; exact .inr (.inr (.inr hc)))).1
    have ha : mFld [Str.ofString "Machine"] (Str.ofString "frames") (mVar 0) [some (.ref h), some (.int (n : Nat)), none, none] T = .ok (.ref a) T := by
      clear hall hO0 hO
      walk_at "m"
    rw [lc_list (n := a) (ds := refsR (p :: as)) (f := posM T) ha fx.1.1 ?_ l6, refsR_map (fs := ⟨pos, at_ + 1, st, lp⟩ :: rest)]
    · rfl
    · refine Frames.map (mk := mkM) (S := T) ?_ hF0 hall
      intro q pos' at' ps' pl' hg
      simp only [posM, hg]
    · intro d hd
      simp only [refsR, List.mem_reverse, List.mem_map] at hd
      obtain ⟨q, hq, rfl⟩ := hd
      obtain ⟨pos', at', ps', pl', hg⟩ := Frames.mem hF0 hall q hq
      clear fx hO hO0 hall ha
      simp only [wipeE, posM]
      walk_at "m"
  have lc := lc S rfl
  rw [refsR_cons] at fx
  have lp1 : (refsR as ++ [D.ref p]).length ≤ 16000000 := by rw [← refsR_cons]; exact l6
  unfold m_Machine__call b_Machine__call
  simp only [step] at hs
  cases hv : valD kn (.inl (n : Nat)) with
  | some v =>
    rw [hv] at hs
    cases v with
    | int v =>
      cases hs
      clear hal hst hfs
      walk_at "m"
      rw [← encS_cons]
      exact OkD.ok (Q := CalledM Z [(h, machO rs k a)] a k _) (.inl ⟨rfl, _, rfl, p :: as, _, .cons (f := ⟨pos, at_ + 1, v :: st, lp⟩) hq hF, hO.set4⟩)
    | _ => cases hs
  | none =>
    rw [hv] at hs
    dsimp only at hs
    by_cases hr : ((posD (⟨pos, at_, st, lp⟩ :: rest)).any fun e => e.eqF (.int (n : Nat))) = true
    · rw [if_pos hr] at hs
      obtain ⟨i, h1, _⟩ := ring_ok hr
      rw [h1] at hs
      cases hs
      obtain ⟨j, c1, c2, c3⟩ := ring_calc (q := S.next) (S := S.push (.lst (posD (⟨pos, at_, st, lp⟩ :: rest)))) h1 (by rw [Store.get_push, if_pos rfl])
      simp only [Store.next_push] at c2 c3
      have hfl := posD_flat (⟨pos, at_, st, lp⟩ :: rest)
      clear hal hst hfs
      walk_at "m"
      exact OkD.ok (Q := CalledM Z [(h, machO rs k a)] a k _) (.inr ⟨_, rfl, rfl, rfl, (hO.garb.garb).last6 hz⟩)
    · rw [if_neg hr] at hs
      cases hs
      have hr' := Bool.eq_false_iff.mpr hr
      have hfl := posD_flat (⟨pos, at_, st, lp⟩ :: rest)
      clear hal hst hfs
      unfold m_Frame____init__ b_Frame____init__
      walk_at "m"
      rw [← refsR_cons p, ← refsR_cons]
      exact OkD.ok (Q := CalledM Z [(h, machO rs k a)] a k _) (.inl ⟨rfl, _, rfl, _ :: p :: as, _, .cons (f := ⟨n, 0, [], []⟩) (p := S.next + 1) (ps := S.next + 1 + 1) (pl := S.next + 1 + 1 + 1) (qs := []) rfl hF0, hO0.garb.push.set0.set0.push.set1.push.set2.set3.callM⟩)
theorem mach_step_call {rs : List (List I)} {r : List I} {start pos at_ a k h n : Nat} {most d : Int} {S : Store} {kn : List (Key × D)} {st : List Int} {lp : List (Int × Int × Int)} {rest : List Fr} {out : Out} {o5 : Option D}
    (hr : rs[pos]? = some r) (hi : r[at_]? = some (.call n)) (hs : step kn rest pos at_ st lp (.call n) = some out) (hst : st.length ≤ 1000000) (hfs : rest.length ≤ 1000000)
    (R : RepX mkM Z [(h, machO rs k a)] a k S ⟨kn, ⟨pos, at_, st, lp⟩ :: rest⟩) :
    PostS [some (codeD start rs), some (.int most), some (.ref h), some (.int d)] mkM Z [(h, machO rs k a)] a k d 1 (bodyM [some (codeD start rs), some (.int most), some (.ref h), some (.int d), o5] S) out := by
  obtain ⟨as, C, hF, hO⟩ := R
  cases hF with
  | @cons _ _ p ps pl qs as C hq hF =>
  dsimp only at hq hO hF
  simp only [frC, List.nil_append, List.cons_append] at hO
  have fm := ownM hO
  have fx := own5 fm.2.2.2.2.2.2.2
  have e1 : ∀ T, atR (rs.map fun r => .tup (r.map I.enc)) (pos : Nat) T = .ok (.tup (r.map I.enc)) T := fun T => q_atR_k (by rw [List.getElem?_map, hr]; rfl)
  have e2 : ∀ T, atR (r.map I.enc) (at_ : Nat) T = .ok (I.enc (.call n)) T := fun T => q_atR_k (by rw [List.getElem?_map, hi]; rfl)
  rw [refsR_cons] at fx
  obtain ⟨x, T, hc, hp⟩ := (mach_called (S := S.set p (mkM pos (at_ + 1) ps pl)) hs hst hfs ⟨p :: as, _, .cons (f := ⟨pos, at_ + 1, st, lp⟩) hq hF, hO.set3⟩).ex
  have hc' : m_Machine__call [.ref h, .int (n : Nat)] (S.set p (.ins (Str.ofString "Frame") [(Str.ofString "position", .int (pos : Nat)), (Str.ofString "place", .int ((at_ : Nat) + 1)), (Str.ofString "stack", .ref ps), (Str.ofString "loops", .ref pl)])) = .ok x T := hc
  unfold codeD
  clear hr hi hF hq hst hfs hc hs
  rcases hp with ⟨rfl, m, rfl, hR⟩ | ⟨ds, rfl, hl, rfl, hZ⟩
  · unfold bodyM m_Machine__step b_Machine__step
    simp only [I.enc] at e2 ⊢
    walk_at "m"
    exact PostS.nx (l := [_]) rfl hR
  · have hne : ds ≠ [] := by rintro rfl; cases hl
    have hne2 : (ds = []) = False := eq_false hne
    have hl2 : ds.length + 1 ≤ 16000000 := by omega
    unfold bodyM m_Machine__step b_Machine__step
    simp only [I.enc] at e2 ⊢
    walk_at "m"
    exact ⟨rfl, hZ⟩
end PP

/-! k83, plain: the abstract machine never sticks on codes that have stands. -/
namespace PP
open PySem L2 MM
abbrev Sd := Nat × Nat
def behind (at_ : Nat) (h l : Nat) : I → Option (List (Nat × Sd))
  | .push _ => some [(at_ + 1, (h + 1, l))]
  | .call _ => some [(at_ + 1, (h + 1, l))]
  | .soFar => if l = 0 then none else some [(at_ + 1, (h + 1, l))]
  | .turn => if l = 0 then none else some [(at_ + 1, (h + 1, l))]
  | .op _ => if 1 < h then some [(at_ + 1, (h - 1, l))] else none
  | .go n => some [(n, (h, l))]
  | .unless n => if 0 < h then some [(at_ + 1, (h - 1, l)), (n, (h - 1, l))] else none
  | .opn n => if 1 < h then some [(at_ + 1, (h - 2, l + 1)), (n, (h - 1, l))] else none
  | .close n => if h = 0 ∨ l = 0 then none else some [(at_ + 1, (h, l - 1)), (n, (h - 1, l))]
  | .ret => if h = 1 ∧ l = 0 then some [] else none
/-- every place of the routine r has one stand -/
structure Stand (N : Nat) (r : List I) (F : Nat → Sd) : Prop where
  zero : F 0 = (0, 0)
  pos : 0 < r.length
  all : ∀ (i : Nat) (ins : I), r[i]? = some ins → ∃ es, behind i (F i).1 (F i).2 ins = some es ∧ ∀ e ∈ es, e.1 < r.length ∧ F e.1 = e.2
  call : ∀ (i n : Nat), r[i]? = some (I.call n) → n < N
  push : ∀ (i : Nat) (v : Int), r[i]? = some (I.push v) → B v
def KGood (rs : List (List I)) : Prop := rs.length ≤ 400 ∧ ∀ r ∈ rs, r.length ≤ 1000 ∧ ∃ F, Stand rs.length r F
def LOk (x : Int × Int × Int) : Prop := x.1 ≤ 200 ∧ 0 ≤ x.2.2 ∧ x.2.2 < x.1 ∧ B x.2.1
structure KFOk (rs : List (List I)) (n e : Nat) (f : Fr) : Prop where
  ex : ∃ r F, rs[f.pos]? = some r ∧ Stand rs.length r F ∧ f.at_ < r.length ∧ F f.at_ = (f.st.length + e, f.lp.length)
  st : f.st.length ≤ n
  lp : f.lp.length ≤ n
  b : ∀ v ∈ f.st, B v
  l : ∀ x ∈ f.lp, LOk x
structure KInv (rs : List (List I)) (n : Nat) (m : M) : Prop where
  kl : m.kn.length ≤ n
  kb : ∀ k d, valD m.kn k = some d → ∃ v, d = .int v ∧ B v
  fs : ∃ f rest, m.fs = f :: rest ∧ KFOk rs n 0 f ∧ (∀ g ∈ rest, KFOk rs n 1 g) ∧ rest.length ≤ n
/-- what a run's answer is made of -/
def Sm (d : D) : Prop := (∃ v, d = .int v ∧ B v) ∨ ∃ w ∈ ["fault", "value", "ring", "nought", "great", "long", "on"], d = .str (Str.ofString w)
def FinOk (ds : List D) : Prop := ds ≠ [] ∧ ds.length ≤ 3 ∧ ∀ d ∈ ds, Sm d
theorem KFOk.more {rs : List (List I)} {n e : Nat} {f : Fr} (h : KFOk rs n e f) : KFOk rs (n + 1) e f := ⟨h.ex, Nat.le_succ_of_le h.st, Nat.le_succ_of_le h.lp, h.b, h.l⟩
theorem cal_B {w : Op} {x y v : Int} (h : cal w x y = .ok v) : B v := by
  unfold cal at h
  split at h
  · cases h
  · split at h
    · rename_i c
      cases h
      exact c
    · cases h
theorem cal_E {w : Op} {x y : Int} {e : String} (h : cal w x y = .error e) : e ∈ ["fault", "value", "ring", "nought", "great", "long", "on"] := by
  unfold cal at h
  split at h
  · cases h; simp
  · split at h
    · cases h
    · cases h; simp
theorem putKD_len (kn : List (Key × D)) (k : Key) (d : D) : (putKD kn k d).length ≤ kn.length + 1 := by
  unfold putKD
  split
  · rw [List.length_map]; omega
  · simp
theorem Sm.w {w : String} (h : w ∈ ["fault", "value", "ring", "nought", "great", "long", "on"]) : Sm (.str (Str.ofString w)) := .inr ⟨w, h, rfl⟩
theorem Sm.i {v : Int} (h : B v) : Sm (.int v) := .inl ⟨v, rfl, h⟩
theorem lt_of_get {α : Type} {l : List α} {i : Nat} {x : α} (h : l[i]? = some x) : i < l.length := (List.getElem?_eq_some_iff.mp h).1
theorem sound {rs : List (List I)} (hg : KGood rs) {n : Nat} {kn : List (Key × D)} {pos at_ : Nat} {st : List Int} {lp : List (Int × Int × Int)} {rest : List Fr}
    (hI : KInv rs n ⟨kn, ⟨pos, at_, st, lp⟩ :: rest⟩) : ∃ r ins out, rs[pos]? = some r ∧ r[at_]? = some ins ∧ step kn rest pos at_ st lp ins = some out ∧ match out with
      | .on m => KInv rs (n + 1) m
      | .fin ds => FinOk ds := by
  obtain ⟨kl, kb, f, rest', he, hf, hr, hl⟩ := hI
  cases he
  dsimp only at kl kb
  obtain ⟨⟨r, F, h1, hS, h2, h3⟩, hst, hlp, hb, hlo⟩ := hf
  dsimp only at h1 h2 h3 hst hlp hb hlo
  have hpos := lt_of_get h1
  have hPB : B (pos : Nat) := by unfold B; have := hg.1; omega
  obtain ⟨ins, hi⟩ : ∃ ins, r[at_]? = some ins := ⟨_, List.getElem?_eq_getElem h2⟩
  obtain ⟨es, hes, hall⟩ := hS.all at_ ins hi
  rw [h3] at hes
  dsimp only [Nat.add_zero] at hes
  have top : ∀ (a : Nat) (s : List Int) (l : List (Int × Int × Int)), a < r.length → F a = (s.length, l.length) → s.length ≤ n + 1 → l.length ≤ n + 1 → (∀ v ∈ s, B v) → (∀ x ∈ l, LOk x) → KFOk rs (n + 1) 0 ⟨pos, a, s, l⟩ := fun a s l c1 c2 c3 c4 c5 c6 => ⟨⟨r, F, h1, hS, c1, c2⟩, c3, c4, c5, c6⟩
  have inv : ∀ (a : Nat) (s : List Int) (l : List (Int × Int × Int)), a < r.length → F a = (s.length, l.length) → s.length ≤ n + 1 → l.length ≤ n + 1 → (∀ v ∈ s, B v) → (∀ x ∈ l, LOk x) → KInv rs (n + 1) ⟨kn, ⟨pos, a, s, l⟩ :: rest⟩ := fun a s l c1 c2 c3 c4 c5 c6 => ⟨Nat.le_succ_of_le kl, kb, _, _, rfl, top a s l c1 c2 c3 c4 c5 c6, fun g hg => (hr g hg).more, Nat.le_succ_of_le hl⟩
  have flt : ∀ w, w ∈ ["fault", "value", "ring", "nought", "great", "long", "on"] → FinOk [.str (Str.ofString "fault"), .str (Str.ofString w), .int (pos : Nat)] := by
    intro w hw
    refine ⟨by simp, by simp, ?_⟩
    intro d hd
    simp only [List.mem_cons, List.not_mem_nil, or_false] at hd
    rcases hd with rfl | rfl | rfl
    · exact Sm.w (by simp)
    · exact Sm.w hw
    · exact Sm.i hPB
  cases ins with
  | push i =>
    cases hes
    obtain ⟨c1, c2⟩ := hall _ (List.mem_singleton.mpr rfl)
    refine ⟨r, _, _, h1, hi, rfl, inv _ _ _ c1 c2 (by simp; omega) (by omega) ?_ hlo⟩
    intro v hv
    rcases List.mem_cons.mp hv with rfl | hv
    · exact hS.push _ _ hi
    · exact hb v hv
  | call m =>
    cases hes
    obtain ⟨c1, c2⟩ := hall _ (List.mem_singleton.mpr rfl)
    have hm := hS.call _ _ hi
    refine ⟨r, .call m, ?_⟩
    simp only [step]
    cases hv : valD kn (.inl (m : Nat)) with
    | some d =>
      obtain ⟨v, rfl, hvB⟩ := kb _ _ hv
      refine ⟨_, h1, hi, rfl, inv _ _ _ c1 c2 (by simp; omega) (by omega) ?_ hlo⟩
      intro u hu
      rcases List.mem_cons.mp hu with rfl | hu
      · exact hvB
      · exact hb u hu
    | none =>
      dsimp only
      by_cases hr' : ((posD (⟨pos, at_, st, lp⟩ :: rest)).any fun e => e.eqF (.int (m : Nat))) = true
      · obtain ⟨i, e1, f', hf', rfl⟩ := ring_ok hr'
        rw [if_pos hr', e1]
        refine ⟨_, h1, hi, rfl, ?_⟩
        refine ⟨by simp, by simp, ?_⟩
        intro d hd
        simp only [List.mem_cons, List.not_mem_nil, or_false] at hd
        rcases hd with rfl | rfl | rfl
        · exact Sm.w (by simp)
        · exact Sm.w (by simp)
        · rcases List.mem_cons.mp hf' with rfl | hf'
          · exact Sm.i hPB
          · obtain ⟨r', F', q1, _⟩ := (hr f' hf').ex
            have := lt_of_get q1
            have := hg.1
            exact Sm.i (by unfold B; omega)
      · rw [if_neg hr']
        refine ⟨_, h1, hi, rfl, ?_⟩
        have hrm : m < rs.length := hm
        obtain ⟨_, F', hS'⟩ := hg.2 rs[m] (List.getElem_mem hrm)
        refine ⟨Nat.le_succ_of_le kl, kb, _, _, rfl, ⟨⟨rs[m], F', List.getElem?_eq_getElem hrm, hS', hS'.pos, hS'.zero⟩, Nat.zero_le _, Nat.zero_le _, fun v hv => (nomatch hv), fun v hv => (nomatch hv)⟩, ?_, by simp; omega⟩
        intro g hg'
        rcases List.mem_cons.mp hg' with rfl | hg'
        · exact ⟨⟨r, F, h1, hS, c1, c2⟩, Nat.le_succ_of_le hst, Nat.le_succ_of_le hlp, hb, hlo⟩
        · exact (hr g hg').more
  | soFar =>
    cases lp with
    | nil => cases hes
    | cons x l =>
      obtain ⟨t, s, k⟩ := x
      cases hes
      obtain ⟨c1, c2⟩ := hall _ (List.mem_singleton.mpr rfl)
      refine ⟨r, _, _, h1, hi, rfl, inv _ _ _ c1 c2 (by simp; omega) (by omega) ?_ hlo⟩
      intro v hv
      rcases List.mem_cons.mp hv with rfl | hv
      · exact (hlo _ List.mem_cons_self).2.2.2
      · exact hb v hv
  | turn =>
    cases lp with
    | nil => cases hes
    | cons x l =>
      obtain ⟨t, s, k⟩ := x
      cases hes
      obtain ⟨c1, c2⟩ := hall _ (List.mem_singleton.mpr rfl)
      refine ⟨r, _, _, h1, hi, rfl, inv _ _ _ c1 c2 (by simp; omega) (by omega) ?_ hlo⟩
      intro v hv
      rcases List.mem_cons.mp hv with rfl | hv
      · obtain ⟨q1, q2, q3, _⟩ := hlo _ List.mem_cons_self
        dsimp only at q1 q2 q3
        unfold B
        omega
      · exact hb v hv
  | op w =>
    simp only [behind] at hes
    split at hes
    · cases hes
      obtain ⟨c1, c2⟩ := hall _ (List.mem_singleton.mpr rfl)
      match st, hst, hb, c2 with
      | y :: x :: s, hst, hb, c2 =>
        simp only [step]
        cases hc : cal w x y with
        | ok v =>
          refine ⟨r, .op w, .on ⟨kn, ⟨pos, at_ + 1, v :: s, lp⟩ :: rest⟩, h1, hi, by simp only [step, hc], inv _ _ _ c1 (by simpa using c2) (by simp at hst ⊢; omega) (by omega) ?_ hlo⟩
          intro u hu
          rcases List.mem_cons.mp hu with rfl | hu
          · exact cal_B hc
          · exact hb u (by simp [hu])
        | error e =>
          exact ⟨r, _, _, h1, hi, by simp only [step, hc]; rfl, flt e (cal_E hc)⟩
      | [y], hst, hb, c2 => rename_i q; exact absurd q (by simp)
      | [], hst, hb, c2 => rename_i q; exact absurd q (by decide)
    · cases hes
  | go m =>
    cases hes
    obtain ⟨c1, c2⟩ := hall _ (List.mem_singleton.mpr rfl)
    exact ⟨r, _, _, h1, hi, rfl, inv _ _ _ c1 c2 (by omega) (by omega) hb hlo⟩
  | «unless» m =>
    cases st with
    | nil => cases hes
    | cons v s =>
      simp only [behind] at hes
      rw [if_pos (by simp)] at hes
      cases hes
      obtain ⟨c1, c2⟩ := hall _ List.mem_cons_self
      obtain ⟨c3, c4⟩ := hall _ (List.mem_cons_of_mem _ List.mem_cons_self)
      refine ⟨r, _, _, h1, hi, rfl, ?_⟩
      by_cases z : v = 0
      · rw [if_pos z]
        exact inv _ _ _ c3 (by simpa using c4) (by simp at hst; omega) (by omega) (fun u hu => hb u (by simp [hu])) hlo
      · rw [if_neg z]
        exact inv _ _ _ c1 (by simpa using c2) (by simp at hst; omega) (by omega) (fun u hu => hb u (by simp [hu])) hlo
  | opn m =>
    simp only [behind] at hes
    split at hes
    · rename_i hlen
      cases hes
      obtain ⟨c1, c2⟩ := hall _ List.mem_cons_self
      obtain ⟨c3, c4⟩ := hall _ (List.mem_cons_of_mem _ List.mem_cons_self)
      match st, hst, hb, c2, c4, hlen with
      | v :: t :: s, hst, hb, c2, c4, hlen =>
        refine ⟨r, .opn m, ?_⟩
        simp only [step]
        by_cases z1 : 200 < t
        · rw [if_pos z1]
          exact ⟨_, h1, hi, rfl, flt "long" (by simp)⟩
        · rw [if_neg z1]
          by_cases z2 : t < 1
          · rw [if_pos z2]
            refine ⟨_, h1, hi, rfl, inv _ _ _ c3 (by simpa using c4) (by simp at hst ⊢; omega) (by omega) ?_ hlo⟩
            intro u hu
            rcases List.mem_cons.mp hu with rfl | hu
            · exact hb u (by simp)
            · exact hb u (by simp [hu])
          · rw [if_neg z2]
            refine ⟨_, h1, hi, rfl, inv _ _ _ c1 (by simpa using c2) (by simp at hst; omega) (by simp; omega) (fun u hu => hb u (by simp [hu])) ?_⟩
            intro u hu
            rcases List.mem_cons.mp hu with rfl | hu
            · exact ⟨by dsimp only; omega, by dsimp only; omega, by dsimp only; omega, hb v (by simp)⟩
            · exact hlo u hu
      | [y], hst, hb, c2, c4, hlen => exact absurd hlen (by simp)
      | [], hst, hb, c2, c4, hlen => exact absurd hlen (by decide)
    · cases hes
  | close m =>
    cases st with
    | nil => simp [behind] at hes
    | cons v s =>
      cases lp with
      | nil => simp [behind] at hes
      | cons x l =>
        obtain ⟨t, s0, k⟩ := x
        simp only [behind] at hes
        rw [if_neg (by simp)] at hes
        cases hes
        obtain ⟨c1, c2⟩ := hall _ List.mem_cons_self
        obtain ⟨c3, c4⟩ := hall _ (List.mem_cons_of_mem _ List.mem_cons_self)
        obtain ⟨q1, q2, q3, _⟩ := hlo _ (List.mem_cons_self)
        dsimp only at q1 q2 q3
        refine ⟨r, .close m, ?_⟩
        simp only [step]
        by_cases z1 : k + 1 < t
        · rw [if_pos z1]
          refine ⟨_, h1, hi, rfl, inv _ _ _ c3 (by simpa using c4) (by simp at hst; omega) (by simp at hlp ⊢; omega) (fun u hu => hb u (by simp [hu])) ?_⟩
          intro u hu
          rcases List.mem_cons.mp hu with rfl | hu
          · exact ⟨q1, by dsimp only; omega, z1, hb v (by simp)⟩
          · exact hlo u (by simp [hu])
        · rw [if_neg z1]
          exact ⟨_, h1, hi, rfl, inv _ _ _ c1 (by simpa using c2) (by simp at hst ⊢; omega) (by simp at hlp; omega) hb fun u hu => hlo u (by simp [hu])⟩
  | ret =>
    simp only [behind] at hes
    split at hes
    · rename_i hc
      match st, hst, hb, hc with
      | [v], hst, hb, hc =>
        cases rest with
        | nil =>
          refine ⟨r, _, _, h1, hi, rfl, by simp, by simp, ?_⟩
          intro d hd
          simp only [List.mem_cons, List.not_mem_nil, or_false] at hd
          rcases hd with rfl | rfl
          · exact Sm.w (by simp)
          · exact Sm.i (hb v (by simp))
        | cons g rest =>
          refine ⟨r, _, _, h1, hi, rfl, ?_⟩
          have hG := hr g (by simp)
          refine ⟨Nat.le_trans (putKD_len _ _ _) (by omega), ?_, _, _, rfl, ⟨?_, ?_, Nat.le_succ_of_le hG.lp, ?_, hG.l⟩, fun g' hg' => (hr g' (by simp [hg'])).more, by simp at hl; omega⟩
          · intro k d hk
            by_cases e : Sum.inl (pos : Int) = k
            · subst e
              rw [valD_put_same] at hk
              cases hk
              exact ⟨v, rfl, hb v (by simp)⟩
            · rw [valD_put_other _ _ e] at hk
              exact kb _ _ hk
          · obtain ⟨r', F', q1, q2, q3, q4⟩ := hG.ex
            exact ⟨r', F', q1, q2, q3, q4⟩
          · have := hG.st
            simp
            omega
          · intro u hu
            rcases List.mem_cons.mp hu with rfl | hu
            · exact hb u (by simp)
            · exact hG.b u hu
      | [], hst, hb, hc => exact absurd hc.1 (by decide)
      | _ :: _ :: _, hst, hb, hc => exact absurd hc.1 (by simp)
    · cases hes
end PP

/-! k83, plain: whole runs. -/
namespace PP
open PySem L2 MM
local macro_rules
  | `(tactic| walk_at "m") => `(tactic| simp only [R.bind_ok, ofString_strOk, List.length_cons, List.length_nil, List.set_cons_zero, List.set_cons_succ, if_true, if_false, reduceIte, Bool.not_true, Bool.not_false, List.any_cons, List.any_nil, List.all_cons, List.all_nil, Bool.or_true, Bool.or_false, Bool.true_or, Bool.false_or, Bool.and_true, Bool.true_and, Bool.false_and, Bool.and_false, String.reduceEq, String.reduceBEq, decide_true, decide_false, Store.get_set, Store.get_push, Store.next_set, Store.next_push, fitsN, valD_put_same, List.lookup_cons, List.lookup_nil, List.mem_cons, List.not_mem_nil, or_false, putD, Option.isSome_some, Option.isSome_none, Nat.reduceSub, Int.cast_ofNat_Int, Nat.reduceLT, Nat.reduceAdd, Nat.reduceLeDiff, Nat.reduceEqDiff, Int.reduceNeg, List.replicate, Bool.false_eq_true, reduceCtorEq, beq_self_eq_true, ne_eq, not_true_eq_false, not_false_eq_true, List.append_nil, List.nil_append, List.cons_append, and_true, true_and, Int.reduceEq, Int.reduceBEq, Int.reduceLT, Int.reduceLE, q_k_drop, q_k_ret, q_k_ifs, q_k_asg2, q_k_asg, q_k_par2, q_k_par, q_k_keep, q_k_gsub2, q_k_gsub, q_k_gcons, q_k_op, q_k_and, q_k_or, q_k_not, q_k_andE2, q_k_andE, q_k_orE2, q_k_orE, q_k_notE2, q_k_notE, q_k_if, q_k_cons2, q_k_cons, q_k_tup, q_k_fits, q_k_new, q_k_meth3, q_k_meth2, q_k_meth, q_k_make2, q_k_make, q_k_bm, q_k_gfld, q_k_chain4, q_k_chain3, q_k_chain2, q_k_chain, q_k_sl3, q_k_sl2, q_k_sl, q_k_rng2, q_e_seq, q_e_seqK, q_e_seqKr, q_e_def, q_e_end, q_e_endr, q_e_drop, q_e_ret, q_e_ifs, q_e_asg, q_e_next, q_e_par, q_e_gn, q_e_gsub, q_e_gnil, q_e_gcons, q_e_gt, q_e_c, q_e_op, q_e_un, q_e_b, q_e_asB, q_e_and, q_e_or, q_e_not, q_e_andE, q_e_orE, q_e_notE, q_e_if, q_e_nil, q_e_cons, q_e_tup, q_e_fits, q_e_new, q_e_dnew, q_e_call, q_e_meth, q_e_make, q_e_bm, q_e_fld, q_e_gfld, q_e_chain, q_e_sl, q_e_no, q_e_some, q_e_asI, q_e_isB, q_e_yes, q_e_rng1, q_e_rng2, q_e_is, q_e_v0, q_e_v1, q_e_v2, q_e_v3, q_e_v4, q_e_v5, q_e_v6, q_e_v7, q_e_v8, q_e_v9, q_e_v10, q_e_mapc, q_e_mapn, q_e_appc, q_e_appn, q_e_rep0, q_e_rep1, q_e_rep2, q_e_rep3, q_e_rep4, q_e_rep5, q_e_rep6, q_e_rep7, q_e_rep8, q_e_rep9, q_ix_ref, q_ix_tup, q_ix_rl, q_ixO_l, q_ixO_di, q_ixO_ds, q_valR_some, q_atR_0, q_atR_1, q_atR_2, q_atR_3, q_atR_4, q_atR_last, q_atR_last1, q_atR_last3, q_atR_last4, q_atR_last2, q_set_ref, q_putR_0, q_putR_1, q_putR_2, q_putR_3, q_setO_l, q_setLR_some, q_setO_di, q_setO_ds, q_getF_ref, q_getFO_i, q_setF_ref, q_setFO_i, q_asIns_ref, q_asInsO_i, q_isLst_ref, q_isLstO_l, q_app_ref, q_appO_l, q_lts, q_pop_ref, q_popO_l, q_popO_1, q_len_ref, q_lenO_l, q_lenO_d, q_len_tup, q_len_rl, q_in_ref, q_inO_di, q_inO_ds, q_inO_l, q_in_tup, q_tup_ref, q_tupO_l, q_add_ref, q_catO_l, q_add_int, q_add_tup, q_sub_int, q_lt_int, q_le_int, q_gt_int, q_ge_int, q_neg_int, q_mul_int, q_mod_int, q_fdiv_int, q_abs_int, q_int_int, q_int_bl, q_max_int, q_min_int, q_divmod_int, q_is_non, q_isnot_non, q_is_bl, q_isnot_bl, q_str_inj, q_str_beq, q_eq_str, q_ne_str, q_eq_int, q_ne_int, q_eq_ref, q_ne_ref, q_eqO_i, q_eqO_n, q_emp, q_emp0, q_nx1, q_nx2, q_nx3, q_nx4, q_nx5, q_nx6, q_nx7, q_nx8, q_nx9, q_nxa, q_nxb, q_nxc, q_nxd, q_ne_tup2, q_mul_ref, q_mulO_1, q_ext_ref, q_extO_l, q_flat_int, q_flat_str, q_flat_bl, q_flat_non, q_eqF_int, q_eqF_str, q_isB_int, q_isB_str, q_isB_bl, q_isB_tup, q_isB_rl, q_isB_non, q_isB_ref, q_isBO_l, q_isBO_d, q_isNon_ref, q_isNon_int, q_isNon_str, q_isNon_tup, q_isNon_bl, q_isNon_non, *])
/-- the answer within n turns, the first of which is number d; none: still on -/
def aRun (rs : List (List I)) : Nat → Nat → M → Option (List D)
  | 0, _, _ => none
  | n + 1, d, m => match m.fs with
    | [] => none
    | f :: rest => match rs[f.pos]? with
      | none => none
      | some r => match r[f.at_]? with
        | none => none
        | some ins => match step m.kn rest f.pos f.at_ f.st f.lp ins with
          | some (.fin ds) => some (ds ++ [.int (d : Nat)])
          | some (.on m') => aRun rs n (d + 1) m'
          | none => none
def LoopQ (Z : List (Nat × O)) (ρ4 : MM.Env) (j : Nat) (o : Option (List D)) : Fl → Store → Prop := fun f T => Own T Z ∧ match o with
  | some ds => f = .rt (.tup ds)
  | none => ∃ l, f = .nx (ρ4 ++ l)
theorem RepX.z {mk : Mk} {Z X : List (Nat × O)} {a k : Nat} {S : Store} {m : M} (h : RepX mk Z X a k S m) : Own S Z := by
  obtain ⟨as, C, hF, hO⟩ := h
  exact hO.sub (.cons _ (.cons _ (hF.base.trans (List.sublist_append_right _ _))))
theorem run_loop {rs : List (List I)} (hg : KGood rs) {body : MS} {ρ4 : MM.Env} {t j N a k : Nat} {mk : Mk} {Z X : List (Nat × O)} (ht : t = ρ4.length) (hN : N ≤ 60000)
    (hb : ∀ (d : Int) (l : MM.Env) (S : Store) (kn : List (Key × D)) (pos at_ : Nat) (st : List Int) (lp : List (Int × Int × Int)) (rest : List Fr) (r : List I) (ins : I) (out : Out), l.length = j → rs[pos]? = some r → r[at_]? = some ins → step kn rest pos at_ st lp ins = some out →
      (∀ v ∈ st, B v) → kn.length ≤ 15000000 → st.length ≤ 1000000 → lp.length ≤ 1000000 → rest.length ≤ 1000000 → (∀ g ∈ rest, g.st.length ≤ 16000000) → RepX mk Z X a k S ⟨kn, ⟨pos, at_, st, lp⟩ :: rest⟩ → PostS (ρ4 ++ [some (.int d)]) mk Z X a k d j (body (ρ4 ++ some (.int d) :: l) S) out) :
    ∀ (n i : Nat) (m : M) (o : Option D) (l : MM.Env) (S : Store), i + n = N → l.length = j → KInv rs i m → RepX mk Z X a k S m → OkD (mForL (.rng 1 N) (mGN t) body (n + 1) i (ρ4 ++ o :: l) S) (LoopQ Z ρ4 j (aRun rs n (i + 1) m))
  | 0, i, m, o, l, S, h, hl, hI, hR => by
    unfold mForL
    have e : IT.at (.rng 1 N) i S = some none := by
      unfold IT.at
      dsimp only
      rw [if_neg (by omega)]
    rw [e]
    exact OkD.ok (Q := LoopQ Z ρ4 j _) ⟨hR.z, o :: l, rfl⟩
  | n + 1, i, m, o, l, S, h, hl, hI, hR => by
    unfold mForL
    have e : IT.at (.rng 1 N) i S = some (some (.int (((i + 1 : Nat)) : Int))) := by
      unfold IT.at
      dsimp only
      rw [if_pos (by omega)]
      congr 3
      omega
    rw [e]
    dsimp only
    have e2 : mGN t (.int (((i + 1 : Nat)) : Int)) (ρ4 ++ o :: l) S = .ok (ρ4 ++ some (.int (((i + 1 : Nat)) : Int)) :: l) S := by
      unfold mGN
      rw [ht, List.set_append_right _ _ (Nat.le_refl _), Nat.sub_self]
      rfl
    rw [e2, R.bind_ok]
    obtain ⟨kn, fs⟩ := m
    have hI' := hI
    obtain ⟨kl, kb, f, rest, he, hf, hr, hll⟩ := hI'
    cases he
    obtain ⟨pos, at_, st, lp⟩ := f
    obtain ⟨r, ins, out, h1, h2, h3, h4⟩ := sound hg hI
    have hp := hb (((i + 1 : Nat)) : Int) l S kn pos at_ st lp rest r ins out hl h1 h2 h3 hf.b (by have := kl; dsimp only at this; omega) (by have := hf.st; dsimp only at this; omega) (by have := hf.lp; dsimp only at this; omega) (by omega) (fun g hg' => by have := (hr g hg').st; omega) hR
    unfold aRun
    dsimp only
    rw [h1]
    dsimp only
    rw [h2]
    dsimp only
    rw [h3]
    generalize body (ρ4 ++ some (.int (((i + 1 : Nat)) : Int)) :: l) S = rr at hp
    cases rr with
    | err _ _ => exact False.elim hp
    | bad => exact False.elim hp
    | ok f T =>
      rw [R.bind_ok]
      cases f with
      | nx ρ' =>
        cases out with
        | fin ds => exact False.elim hp
        | on m' =>
          obtain ⟨⟨l', hl', rfl⟩, hR'⟩ := hp
          have ih := run_loop hg ht hN hb n (i + 1) m' (some (.int (((i + 1 : Nat)) : Int))) l' T (by omega) hl' h4 hR'
          rw [List.append_assoc]
          exact ih
      | rt x =>
        cases out with
        | fin ds => exact OkD.ok (Q := LoopQ Z ρ4 j _) ⟨hp.2, congrArg Fl.rt hp.1⟩
        | on m' => exact False.elim hp
      | bk _ => exact False.elim (by cases out <;> exact hp)
      | ct _ => exact False.elim (by cases out <;> exact hp)
/-- the answer as a value -/
def resD (most : Nat) : Option (List D) → D
  | some ds => .tup ds
  | none => .tup [.str (Str.ofString "on"), .int (most : Nat)]
def m0 (start : Nat) : M := ⟨[], [⟨start, 0, [], []⟩]⟩
theorem inv0 {rs : List (List I)} (hg : KGood rs) {start : Nat} (h : start < rs.length) : KInv rs 0 (m0 start) := by
  obtain ⟨_, F, hS⟩ := hg.2 rs[start] (List.getElem_mem h)
  exact ⟨Nat.le_refl _, fun k d hk => (nomatch hk), _, _, rfl, ⟨⟨rs[start], F, List.getElem?_eq_getElem h, hS, hS.pos, hS.zero⟩, Nat.le_refl _, Nat.le_refl _, fun v hv => (nomatch hv), fun v hv => (nomatch hv)⟩, fun g hg => (nomatch hg), Nat.le_refl _⟩
theorem law_loop {rs : List (List I)} (hg : KGood rs) {start most : Nat} (h : start < rs.length) (hm : most ≤ 60000) (a k : Nat) (T : Store) (hR : RepX mkL Z [] a k T (m0 start)) : OkD (mFor (mRng2 (mC (.int 1)) (mOp opAdd (mVar 1) (mC (.int 1)))) (mGN 4) bodyL [some (codeD start rs), some (.int (most : Nat)), some (.ref a), some (.ref k), none, none, none, none, none] T) (LoopQ Z [some (codeD start rs), some (.int (most : Nat)), some (.ref a), some (.ref k)] 4 (aRun rs most 1 (m0 start))) := by
  have hrng : ∀ T, asRng2 (.int 1) (.int ((most : Nat) + 1)) T = .ok (.rng 1 most) T := by
    intro T
    unfold asRng2
    dsimp only
    rw [if_pos ⟨rfl, decide_eq_true (by omega)⟩]
    congr 2
    omega
  rw [q_e_for]
  have e : mRng2 (mC (.int 1)) (mOp opAdd (mVar 1) (mC (.int 1))) [some (codeD start rs), some (.int (most : Nat)), some (.ref a), some (.ref k), none, none, none, none, none] T = .ok (.rng 1 most) T := by
    clear hR hg
    walk_at "m"
  rw [e, R.bind_ok]
  have z := run_loop hg (body := bodyL) (ρ4 := [some (codeD start rs), some (.int (most : Nat)), some (.ref a), some (.ref k)]) (t := 4) (j := 4) (N := most) (a := a) (k := k) (mk := mkL) (Z := Z) (X := []) rfl hm ?_ most 0 (m0 start) none [none, none, none, none] T (by omega) rfl (inv0 hg h) hR
  · exact z
  · intro d l S kn pos at_ st lp rest r ins out hl h1 h2 h3 h4 h5 h6 h7 h8 h9 hR
    match l, hl with
    | [o5, o6, o7, o8], _ =>
      by_cases hc : ∃ n, ins = .call n
      · obtain ⟨n, rfl⟩ := hc
        exact law_step_call h1 h2 h3 h6 h8 hR
      · exact law_step1 (fun n e => hc ⟨n, e⟩) h1 h2 h3 h4 h5 h6 h7 h8 h9 hR
theorem law_run {rs : List (List I)} (hg : KGood rs) {start most : Nat} (h : start < rs.length) (hm : most ≤ 60000) {Z : List (Nat × O)} (S : Store) (hZ : Own S Z) :
    ∃ T, m_L_law_run [codeD start rs, .int (most : Nat)] S = .ok (resD most (aRun rs most 1 (m0 start))) T ∧ Own T Z := by
  have hB : b_L_law_run = mSeq (mPar 2 3 (mNew (mFits (mCons (mNew (mFits (mCons (mOp getIx (mVar 0) (mC (.int (1)))) (mCons (mC (.int (0))) (mCons (mNew (mFits mNil)) (mCons (mNew (mFits mNil)) mNil)))))) mNil))) mDNew)
    (mSeq (mFor (mRng2 (mC (.int 1)) (mOp opAdd (mVar 1) (mC (.int 1)))) (mGN 4) bodyL) (mRet (mTup (mCons (mC (.str "on")) (mCons (mVar 1) mNil))))) := rfl
  unfold m_L_law_run
  rw [hB]
  have hO : Own (((((S.push (.lst [])).push (.lst [])).push (.lst [.int (start : Nat), .int 0, .ref S.next, .ref (S.next + 1)])).push (.lst [.ref (S.next + 1 + 1)])).push (.dct [])) ((S.next + 1 + 1 + 1, .lst [.ref (S.next + 1 + 1)]) :: (S.next + 1 + 1 + 1 + 1, .dct []) :: (S.next + 1 + 1, .lst [.int (start : Nat), .int 0, .ref S.next, .ref (S.next + 1)]) :: (S.next, .lst []) :: (S.next + 1, .lst []) :: Z) :=
    by
    have h5 := (((((hZ).push (o := .lst [])).push (o := .lst [])).push (o := .lst [.int (start : Nat), .int 0, .ref S.next, .ref (S.next + 1)])).push (o := .lst [.ref (S.next + 1 + 1)])).push (o := .dct [])
    simp only [Store.next_push] at h5
    exact h5.perm ((List.Perm.swap _ _ _).trans (((((List.Perm.swap _ _ _)).cons _).cons _).cons _))
  generalize hT0 : ((((S.push (.lst [])).push (.lst [])).push (.lst [.int (start : Nat), .int 0, .ref S.next, .ref (S.next + 1)])).push (.lst [.ref (S.next + 1 + 1)])).push (.dct []) = T0 at hO
  have hR : RepX mkL Z [] (S.next + 1 + 1 + 1) (S.next + 1 + 1 + 1 + 1) T0 (m0 start) := by
    refine ⟨[S.next + 1 + 1], _, Frames.cons (mk := mkL) (Z := Z) (f := ⟨start, 0, [], []⟩) (p := S.next + 1 + 1) (ps := S.next) (pl := S.next + 1) (qs := []) rfl Frames.nil, ?_⟩
    exact hO
  have hz := law_loop hg h hm _ _ _ hR
  have hz2 := OkD.ex hz
  clear hz
  obtain ⟨f, T, e1, hZ', hq⟩ := hz2
  clear hO hB hR hZ
  unfold codeD at *
  cases hr : aRun rs most 1 (m0 start) with
  | some ds =>
    rw [hr] at hq
    cases hq
    refine ⟨T, ?_, hZ'⟩
    unfold resD
    walk_at "m"
  | none =>
    rw [hr] at hq
    obtain ⟨l, rfl⟩ := hq
    refine ⟨T, ?_, hZ'⟩
    unfold resD
    walk_at "m"
end PP

/-! k83, plain: the machine's whole runs. -/
namespace PP
open PySem L2 MM
local macro_rules
  | `(tactic| walk_at "m") => `(tactic| simp only [R.bind_ok, ofString_strOk, List.length_cons, List.length_nil, List.set_cons_zero, List.set_cons_succ, if_true, if_false, reduceIte, Bool.not_true, Bool.not_false, List.any_cons, List.any_nil, List.all_cons, List.all_nil, Bool.or_true, Bool.or_false, Bool.true_or, Bool.false_or, Bool.and_true, Bool.true_and, Bool.false_and, Bool.and_false, String.reduceEq, String.reduceBEq, decide_true, decide_false, Store.get_set, Store.get_push, Store.next_set, Store.next_push, fitsN, valD_put_same, List.lookup_cons, List.lookup_nil, List.mem_cons, List.not_mem_nil, or_false, putD, Option.isSome_some, Option.isSome_none, Nat.reduceSub, Int.cast_ofNat_Int, Nat.reduceLT, Nat.reduceAdd, Nat.reduceLeDiff, Nat.reduceEqDiff, Int.reduceNeg, List.replicate, Bool.false_eq_true, reduceCtorEq, beq_self_eq_true, ne_eq, not_true_eq_false, not_false_eq_true, List.append_nil, List.nil_append, List.cons_append, and_true, true_and, Int.reduceEq, Int.reduceBEq, Int.reduceLT, Int.reduceLE, q_k_drop, q_k_ret, q_k_ifs, q_k_asg2, q_k_asg, q_k_par2, q_k_par, q_k_keep, q_k_gsub2, q_k_gsub, q_k_gcons, q_k_op, q_k_and, q_k_or, q_k_not, q_k_andE2, q_k_andE, q_k_orE2, q_k_orE, q_k_notE2, q_k_notE, q_k_if, q_k_cons2, q_k_cons, q_k_tup, q_k_fits, q_k_new, q_k_meth3, q_k_meth2, q_k_meth, q_k_make2, q_k_make, q_k_bm, q_k_gfld, q_k_chain4, q_k_chain3, q_k_chain2, q_k_chain, q_k_sl3, q_k_sl2, q_k_sl, q_k_rng2, q_e_seq, q_e_seqK, q_e_seqKr, q_e_def, q_e_end, q_e_endr, q_e_drop, q_e_ret, q_e_ifs, q_e_asg, q_e_next, q_e_par, q_e_gn, q_e_gsub, q_e_gnil, q_e_gcons, q_e_gt, q_e_c, q_e_op, q_e_un, q_e_b, q_e_asB, q_e_and, q_e_or, q_e_not, q_e_andE, q_e_orE, q_e_notE, q_e_if, q_e_nil, q_e_cons, q_e_tup, q_e_fits, q_e_new, q_e_dnew, q_e_call, q_e_meth, q_e_make, q_e_bm, q_e_fld, q_e_gfld, q_e_chain, q_e_sl, q_e_no, q_e_some, q_e_asI, q_e_isB, q_e_yes, q_e_rng1, q_e_rng2, q_e_is, q_e_v0, q_e_v1, q_e_v2, q_e_v3, q_e_v4, q_e_v5, q_e_v6, q_e_v7, q_e_v8, q_e_v9, q_e_v10, q_e_mapc, q_e_mapn, q_e_appc, q_e_appn, q_e_rep0, q_e_rep1, q_e_rep2, q_e_rep3, q_e_rep4, q_e_rep5, q_e_rep6, q_e_rep7, q_e_rep8, q_e_rep9, q_ix_ref, q_ix_tup, q_ix_rl, q_ixO_l, q_ixO_di, q_ixO_ds, q_valR_some, q_atR_0, q_atR_1, q_atR_2, q_atR_3, q_atR_4, q_atR_last, q_atR_last1, q_atR_last3, q_atR_last4, q_atR_last2, q_set_ref, q_putR_0, q_putR_1, q_putR_2, q_putR_3, q_setO_l, q_setLR_some, q_setO_di, q_setO_ds, q_getF_ref, q_getFO_i, q_setF_ref, q_setFO_i, q_asIns_ref, q_asInsO_i, q_isLst_ref, q_isLstO_l, q_app_ref, q_appO_l, q_lts, q_pop_ref, q_popO_l, q_popO_1, q_len_ref, q_lenO_l, q_lenO_d, q_len_tup, q_len_rl, q_in_ref, q_inO_di, q_inO_ds, q_inO_l, q_in_tup, q_tup_ref, q_tupO_l, q_add_ref, q_catO_l, q_add_int, q_add_tup, q_sub_int, q_lt_int, q_le_int, q_gt_int, q_ge_int, q_neg_int, q_mul_int, q_mod_int, q_fdiv_int, q_abs_int, q_int_int, q_int_bl, q_max_int, q_min_int, q_divmod_int, q_is_non, q_isnot_non, q_is_bl, q_isnot_bl, q_str_inj, q_str_beq, q_eq_str, q_ne_str, q_eq_int, q_ne_int, q_eq_ref, q_ne_ref, q_eqO_i, q_eqO_n, q_emp, q_emp0, q_nx1, q_nx2, q_nx3, q_nx4, q_nx5, q_nx6, q_nx7, q_nx8, q_nx9, q_nxa, q_nxb, q_nxc, q_nxd, q_ne_tup2, q_mul_ref, q_mulO_1, q_ext_ref, q_extO_l, q_flat_int, q_flat_str, q_flat_bl, q_flat_non, q_eqF_int, q_eqF_str, q_isB_int, q_isB_str, q_isB_bl, q_isB_tup, q_isB_rl, q_isB_non, q_isB_ref, q_isBO_l, q_isBO_d, q_isNon_ref, q_isNon_int, q_isNon_str, q_isNon_tup, q_isNon_bl, q_isNon_non, *])
theorem mach_loop {rs : List (List I)} (hg : KGood rs) {start most : Nat} (h : start < rs.length) (hm : most ≤ 60000) (a k h' : Nat) (T : Store) (hR : RepX mkM Z [(h', machO rs k a)] a k T (m0 start)) : OkD (mFor (mRng2 (mC (.int 1)) (mOp opAdd (mVar 1) (mC (.int 1)))) (mGN 3) bodyM [some (codeD start rs), some (.int (most : Nat)), some (.ref h'), none, none] T) (LoopQ Z [some (codeD start rs), some (.int (most : Nat)), some (.ref h')] 1 (aRun rs most 1 (m0 start))) := by
  have hrng : ∀ T, asRng2 (.int 1) (.int ((most : Nat) + 1)) T = .ok (.rng 1 most) T := by
    intro T
    unfold asRng2
    dsimp only
    rw [if_pos ⟨rfl, decide_eq_true (by omega)⟩]
    congr 2
    omega
  rw [q_e_for]
  have e : mRng2 (mC (.int 1)) (mOp opAdd (mVar 1) (mC (.int 1))) [some (codeD start rs), some (.int (most : Nat)), some (.ref h'), none, none] T = .ok (.rng 1 most) T := by
    clear hR hg
    walk_at "m"
  rw [e, R.bind_ok]
  have z := run_loop hg (body := bodyM) (ρ4 := [some (codeD start rs), some (.int (most : Nat)), some (.ref h')]) (t := 3) (j := 1) (N := most) (a := a) (k := k) (mk := mkM) (Z := Z) (X := [(h', machO rs k a)]) rfl hm ?_ most 0 (m0 start) none [none] T (by omega) rfl (inv0 hg h) hR
  · exact z
  · intro d l S kn pos at_ st lp rest r ins out hl h1 h2 h3 h4 h5 h6 h7 h8 h9 hR
    match l, hl with
    | [o5], _ =>
      by_cases hc : ∃ n, ins = .call n
      · obtain ⟨n, rfl⟩ := hc
        exact mach_step_call h1 h2 h3 h6 h8 hR
      · exact mach_step1 (fun n e => hc ⟨n, e⟩) h1 h2 h3 h4 h5 h6 h7 h8 h9 hR
theorem Own.start {S : Store} {R : List (Nat × O)} {f l s a k h : Nat × O} (o : Own S (a :: l :: s :: f :: k :: h :: R)) : Own S (a :: k :: h :: f :: s :: l :: R) :=
  o.perm ((((List.perm_middle (l₁ := [l, s, f]) (l₂ := h :: R)).trans (((List.perm_middle (l₁ := [l, s, f]) (l₂ := R)).trans ((((List.perm_middle (l₁ := [l, s]) (l₂ := R)).trans ((List.Perm.swap s l R).cons f))).cons h)).cons k)).cons a))
theorem mach_run {rs : List (List I)} (hg : KGood rs) {start most : Nat} (h : start < rs.length) (hm : most ≤ 60000) {Z : List (Nat × O)} (S : Store) (hZ : Own S Z) :
    ∃ T, m_run_of [codeD start rs, .int (most : Nat)] S = .ok (resD most (aRun rs most 1 (m0 start))) T ∧ Own T Z := by
  have hB : b_run_of = mSeq (mAsg (mMake "Machine" m_Machine____init__ (mCons (mVar 0) mNil)) (mGN 2))
    (mSeq (mFor (mRng2 (mC (.int 1)) (mOp opAdd (mVar 1) (mC (.int 1)))) (mGN 3) bodyM) (mRet (mTup (mCons (mC (.str "on")) (mCons (mVar 1) mNil))))) := rfl
  unfold m_run_of
  rw [hB]
  have hI : OkD (m_Machine____init__ [.ref S.next, codeD start rs] (S.push (.ins (Str.ofString "Machine") []))) (fun d T => d = .non ∧ RepX mkM Z [(S.next, machO rs (S.next + 1) (S.next + 1 + 1 + 1 + 1 + 1))] (S.next + 1 + 1 + 1 + 1 + 1) (S.next + 1) T (m0 start)) := by
    clear hB
    unfold m_Machine____init__ b_Machine____init__ m_Frame____init__ b_Frame____init__ codeD
    generalize hQ : (fun (d : D) (T : Store) => d = .non ∧ RepX mkM Z [(S.next, machO rs (S.next + 1) (S.next + 1 + 1 + 1 + 1 + 1))] (S.next + 1 + 1 + 1 + 1 + 1) (S.next + 1) T (m0 start)) = Q
    walk_at "m"
    subst hQ
    refine OkD.ok (Q := fun (d : D) (T : Store) => d = .non ∧ RepX mkM Z [(S.next, machO rs (S.next + 1) (S.next + 1 + 1 + 1 + 1 + 1))] (S.next + 1 + 1 + 1 + 1 + 1) (S.next + 1) T (m0 start)) ⟨rfl, ?_⟩
    refine ⟨[S.next + 1 + 1], _, Frames.cons (mk := mkM) (Z := Z) (f := ⟨start, 0, [], []⟩) (p := S.next + 1 + 1) (ps := S.next + 1 + 1 + 1) (pl := S.next + 1 + 1 + 1 + 1) (qs := []) rfl Frames.nil, ?_⟩
    exact Own.start hZ.push.set0.push.set1.push.set0.set0.push.set1.push.set2.push.set5
  obtain ⟨d0, T0, e0, rfl, hR⟩ := hI.ex
  have hz := mach_loop hg h hm _ _ _ _ hR
  have hz2 := OkD.ex hz
  clear hz
  obtain ⟨f, T, e1, hZ', hq⟩ := hz2
  clear hB hR hI hZ
  unfold codeD at *
  cases hr : aRun rs most 1 (m0 start) with
  | some ds =>
    rw [hr] at hq
    cases hq
    refine ⟨T, ?_, hZ'⟩
    unfold resD
    walk_at "m"
  | none =>
    rw [hr] at hq
    obtain ⟨l, rfl⟩ := hq
    refine ⟨T, ?_, hZ'⟩
    unfold resD
    walk_at "m"
end PP

/-! k83, plain: what is_code says. -/
namespace PP
open PySem L2 MM
local macro_rules
  | `(tactic| walk_at "m") => `(tactic| simp only [R.bind_ok, ofString_strOk, List.length_cons, List.length_nil, List.set_cons_zero, List.set_cons_succ, if_true, if_false, reduceIte, Bool.not_true, Bool.not_false, List.any_cons, List.any_nil, List.all_cons, List.all_nil, Bool.or_true, Bool.or_false, Bool.true_or, Bool.false_or, Bool.and_true, Bool.true_and, Bool.false_and, Bool.and_false, String.reduceEq, String.reduceBEq, decide_true, decide_false, Store.get_set, Store.get_push, Store.next_set, Store.next_push, fitsN, valD_put_same, List.lookup_cons, List.lookup_nil, List.mem_cons, List.not_mem_nil, or_false, putD, Option.isSome_some, Option.isSome_none, Nat.reduceSub, Int.cast_ofNat_Int, Nat.reduceLT, Nat.reduceAdd, Nat.reduceLeDiff, Nat.reduceEqDiff, Int.reduceNeg, List.replicate, Bool.false_eq_true, reduceCtorEq, beq_self_eq_true, ne_eq, not_true_eq_false, not_false_eq_true, List.append_nil, List.nil_append, List.cons_append, and_true, true_and, Int.reduceEq, Int.reduceBEq, Int.reduceLT, Int.reduceLE, q_k_drop, q_k_ret, q_k_ifs, q_k_asg2, q_k_asg, q_k_par2, q_k_par, q_k_keep, q_k_gsub2, q_k_gsub, q_k_gcons, q_k_op, q_k_and, q_k_or, q_k_not, q_k_andE2, q_k_andE, q_k_orE2, q_k_orE, q_k_notE2, q_k_notE, q_k_if, q_k_cons2, q_k_cons, q_k_tup, q_k_fits, q_k_new, q_k_meth3, q_k_meth2, q_k_meth, q_k_make2, q_k_make, q_k_bm, q_k_gfld, q_k_chain4, q_k_chain3, q_k_chain2, q_k_chain, q_k_sl3, q_k_sl2, q_k_sl, q_k_rng2, q_e_seq, q_e_seqK, q_e_seqKr, q_e_def, q_e_end, q_e_endr, q_e_drop, q_e_ret, q_e_ifs, q_e_asg, q_e_next, q_e_par, q_e_gn, q_e_gsub, q_e_gnil, q_e_gcons, q_e_gt, q_e_c, q_e_op, q_e_un, q_e_b, q_e_asB, q_e_and, q_e_or, q_e_not, q_e_andE, q_e_orE, q_e_notE, q_e_if, q_e_nil, q_e_cons, q_e_tup, q_e_fits, q_e_new, q_e_dnew, q_e_call, q_e_meth, q_e_make, q_e_bm, q_e_fld, q_e_gfld, q_e_chain, q_e_sl, q_e_no, q_e_some, q_e_asI, q_e_isB, q_e_yes, q_e_rng1, q_e_rng2, q_e_is, q_e_v0, q_e_v1, q_e_v2, q_e_v3, q_e_v4, q_e_v5, q_e_v6, q_e_v7, q_e_v8, q_e_v9, q_e_v10, q_e_mapc, q_e_mapn, q_e_appc, q_e_appn, q_e_rep0, q_e_rep1, q_e_rep2, q_e_rep3, q_e_rep4, q_e_rep5, q_e_rep6, q_e_rep7, q_e_rep8, q_e_rep9, q_ix_ref, q_ix_tup, q_ix_rl, q_ixO_l, q_ixO_di, q_ixO_ds, q_valR_some, q_atR_0, q_atR_1, q_atR_2, q_atR_3, q_atR_4, q_atR_last, q_atR_last1, q_atR_last3, q_atR_last4, q_atR_last2, q_set_ref, q_putR_0, q_putR_1, q_putR_2, q_putR_3, q_setO_l, q_setLR_some, q_setO_di, q_setO_ds, q_getF_ref, q_getFO_i, q_setF_ref, q_setFO_i, q_asIns_ref, q_asInsO_i, q_isLst_ref, q_isLstO_l, q_app_ref, q_appO_l, q_lts, q_pop_ref, q_popO_l, q_popO_1, q_len_ref, q_lenO_l, q_lenO_d, q_len_tup, q_len_rl, q_in_ref, q_inO_di, q_inO_ds, q_inO_l, q_in_tup, q_tup_ref, q_tupO_l, q_add_ref, q_catO_l, q_add_int, q_add_tup, q_sub_int, q_lt_int, q_le_int, q_gt_int, q_ge_int, q_neg_int, q_mul_int, q_mod_int, q_fdiv_int, q_abs_int, q_int_int, q_int_bl, q_max_int, q_min_int, q_divmod_int, q_is_non, q_isnot_non, q_is_bl, q_isnot_bl, q_str_inj, q_str_beq, q_eq_str, q_ne_str, q_eq_int, q_ne_int, q_eq_ref, q_ne_ref, q_eqO_i, q_eqO_n, q_emp, q_emp0, q_nx1, q_nx2, q_nx3, q_nx4, q_nx5, q_nx6, q_nx7, q_nx8, q_nx9, q_nxa, q_nxb, q_nxc, q_nxd, q_ne_tup2, q_mul_ref, q_mulO_1, q_ext_ref, q_extO_l, q_flat_int, q_flat_str, q_flat_bl, q_flat_non, q_eqF_int, q_eqF_str, q_isB_int, q_isB_str, q_isB_bl, q_isB_tup, q_isB_rl, q_isB_non, q_isB_ref, q_isBO_l, q_isBO_d, q_isNon_ref, q_isNon_int, q_isNon_str, q_isNon_tup, q_isNon_bl, q_isNon_non, *])
theorem is_integer_int (i : Int) (S : Store) : m_is_integer [.int i] S = .ok (.bl true) S := by
  unfold m_is_integer b_is_integer
  walk_at "m"
theorem is_count_nat (n : Nat) (S : Store) : m_is_count [.int (n : Nat)] S = .ok (.bl true) S := by
  have h : decide ((0 : Int) ≤ (n : Nat)) = true := decide_eq_true (by omega)
  have h2 := is_integer_int
  unfold m_is_count b_is_count
  walk_at "m"
/-- what the form of an instruction asks -/
def InsOk (spots routines : Nat) : I → Prop
  | .push i => B i
  | .call n => n < routines
  | .unless n => n < spots
  | .go n => n < spots
  | .opn n => n < spots
  | .close n => n < spots
  | _ => True
theorem is_instruction_ok (ins : I) (spots routines : Nat) (h : InsOk spots routines ins) (S : Store) : m_is_instruction [ins.enc, .int (spots : Nat), .int (routines : Nat)] S = .ok (.bl true) S := by
  have h1 := is_count_nat
  have h2 := is_integer_int
  unfold m_is_instruction b_is_instruction c_LONE_WORDS c_SPOT_WORDS c_FAULT_WORDS
  cases ins with
  | push i =>
    have h3 : decide ((if i < 0 then -i else i) ≤ 1000000000000) = true := by rw [abs_le]; exact decide_eq_true h
    simp only [I.enc]
    walk_at "m"
  | call n =>
    have h3 : decide (((n : Nat) : Int) < ((routines : Nat) : Int)) = true := decide_eq_true (by simp only [InsOk] at h; omega)
    simp only [I.enc]
    clear h
    walk_at "m"
  | «unless» n =>
    have h3 : decide (((n : Nat) : Int) < ((spots : Nat) : Int)) = true := decide_eq_true (by simp only [InsOk] at h; omega)
    simp only [I.enc]
    clear h
    walk_at "m"
  | go n =>
    have h3 : decide (((n : Nat) : Int) < ((spots : Nat) : Int)) = true := decide_eq_true (by simp only [InsOk] at h; omega)
    simp only [I.enc]
    clear h
    walk_at "m"
  | opn n =>
    have h3 : decide (((n : Nat) : Int) < ((spots : Nat) : Int)) = true := decide_eq_true (by simp only [InsOk] at h; omega)
    simp only [I.enc]
    clear h
    walk_at "m"
  | close n =>
    have h3 : decide (((n : Nat) : Int) < ((spots : Nat) : Int)) = true := decide_eq_true (by simp only [InsOk] at h; omega)
    simp only [I.enc]
    clear h
    walk_at "m"
  | op w => cases w <;> simp only [I.enc, Op.w] <;> clear h <;> walk_at "m"
  | soFar => simp only [I.enc]; clear h; walk_at "m"
  | turn => simp only [I.enc]; clear h; walk_at "m"
  | ret => simp only [I.enc]; clear h; walk_at "m"
def sdD (s : Sd) : D := .tup [.int (s.1 : Nat), .int (s.2 : Nat)]
def edD (e : Nat × Sd) : D := .tup [.int (e.1 : Nat), sdD e.2]
theorem behind_ok (ins : I) (a h l : Nat) {es : List (Nat × Sd)} (hb : behind a h l ins = some es) (S : Store) :
    m_stands_behind [ins.enc, .int (a : Nat), .int (h : Nat), .int (l : Nat)] S = .ok (.ref S.next) (S.push (.lst (es.map edD))) := by
  unfold m_stands_behind b_stands_behind c_PUTTING c_OPERATIONS
  cases ins with
  | push i =>
    cases hb
    simp only [I.enc]
    walk_at "m"
    rfl
  | call n =>
    cases hb
    simp only [I.enc]
    walk_at "m"
    rfl
  | go n =>
    cases hb
    simp only [I.enc]
    walk_at "m"
    rfl
  | «unless» n =>
    simp only [behind] at hb
    split at hb
    · rename_i c
      cases hb
      have h3 : decide ((0 : Int) < ((h : Nat) : Int)) = true := decide_eq_true (by omega)
      have h4 : ((h - 1 : Nat) : Int) = (h : Int) - 1 := by omega
      simp only [I.enc, edD, sdD, List.map_cons, List.map_nil]
      clear c
      walk_at "m"
      rfl
    · cases hb
  | opn n =>
    simp only [behind] at hb
    split at hb
    · rename_i c
      cases hb
      have h3 : decide ((1 : Int) < ((h : Nat) : Int)) = true := decide_eq_true (by omega)
      have h4 : ((h - 1 : Nat) : Int) = (h : Int) - 1 := by omega
      have h5 : ((h - 2 : Nat) : Int) = (h : Int) - 2 := by omega
      simp only [I.enc, edD, sdD, List.map_cons, List.map_nil]
      clear c
      walk_at "m"
      rfl
    · cases hb
  | close n =>
    simp only [behind] at hb
    split at hb
    · cases hb
    · rename_i c
      cases hb
      have h3 : (((h : Nat) : Int) == 0) = false := by simp; omega
      have h3b : (((l : Nat) : Int) == 0) = false := by simp; omega
      have h4 : ((h - 1 : Nat) : Int) = (h : Int) - 1 := by omega
      have h5 : ((l - 1 : Nat) : Int) = (l : Int) - 1 := by omega
      simp only [I.enc, edD, sdD, List.map_cons, List.map_nil]
      clear c
      walk_at "m"
      rfl
  | op w =>
    simp only [behind] at hb
    split at hb
    · rename_i c
      cases hb
      have h3 : decide ((1 : Int) < ((h : Nat) : Int)) = true := decide_eq_true (by omega)
      have h4 : ((h - 1 : Nat) : Int) = (h : Int) - 1 := by omega
      clear c
      cases w <;> simp only [I.enc, edD, sdD, List.map_cons, List.map_nil, Op.w] <;> walk_at "m" <;> rfl
    · cases hb
  | soFar =>
    simp only [behind] at hb
    split at hb
    · cases hb
    · rename_i c
      cases hb
      have h3b : (((l : Nat) : Int) == 0) = false := by simp; omega
      simp only [I.enc]
      clear c
      walk_at "m"
      rfl
  | turn =>
    simp only [behind] at hb
    split at hb
    · cases hb
    · rename_i c
      cases hb
      have h3b : (((l : Nat) : Int) == 0) = false := by simp; omega
      simp only [I.enc]
      clear c
      walk_at "m"
      rfl
  | ret =>
    simp only [behind] at hb
    split at hb
    · rename_i c
      cases hb
      obtain ⟨rfl, rfl⟩ := c
      simp only [I.enc]
      walk_at "m"
      rfl
    · cases hb
end PP

/-! k83, plain: the search for stands ends well. -/
namespace PP
open PySem L2 MM
local macro_rules
  | `(tactic| walk_at "m") => `(tactic| simp only [R.bind_ok, ofString_strOk, List.length_cons, List.length_nil, List.set_cons_zero, List.set_cons_succ, if_true, if_false, reduceIte, Bool.not_true, Bool.not_false, List.any_cons, List.any_nil, List.all_cons, List.all_nil, Bool.or_true, Bool.or_false, Bool.true_or, Bool.false_or, Bool.and_true, Bool.true_and, Bool.false_and, Bool.and_false, String.reduceEq, String.reduceBEq, decide_true, decide_false, Store.get_set, Store.get_push, Store.next_set, Store.next_push, fitsN, valD_put_same, List.lookup_cons, List.lookup_nil, List.mem_cons, List.not_mem_nil, or_false, putD, Option.isSome_some, Option.isSome_none, Nat.reduceSub, Int.cast_ofNat_Int, Nat.reduceLT, Nat.reduceAdd, Nat.reduceLeDiff, Nat.reduceEqDiff, Int.reduceNeg, List.replicate, Bool.false_eq_true, reduceCtorEq, beq_self_eq_true, ne_eq, not_true_eq_false, not_false_eq_true, List.append_nil, List.nil_append, List.cons_append, and_true, true_and, Int.reduceEq, Int.reduceBEq, Int.reduceLT, Int.reduceLE, q_k_drop, q_k_ret, q_k_ifs, q_k_asg2, q_k_asg, q_k_par2, q_k_par, q_k_keep, q_k_gsub2, q_k_gsub, q_k_gcons, q_k_op, q_k_and, q_k_or, q_k_not, q_k_andE2, q_k_andE, q_k_orE2, q_k_orE, q_k_notE2, q_k_notE, q_k_if, q_k_cons2, q_k_cons, q_k_tup, q_k_fits, q_k_new, q_k_meth3, q_k_meth2, q_k_meth, q_k_make2, q_k_make, q_k_bm, q_k_gfld, q_k_chain4, q_k_chain3, q_k_chain2, q_k_chain, q_k_sl3, q_k_sl2, q_k_sl, q_k_rng2, q_e_seq, q_e_seqK, q_e_seqKr, q_e_def, q_e_end, q_e_endr, q_e_drop, q_e_ret, q_e_ifs, q_e_asg, q_e_next, q_e_par, q_e_gn, q_e_gsub, q_e_gnil, q_e_gcons, q_e_gt, q_e_c, q_e_op, q_e_un, q_e_b, q_e_asB, q_e_and, q_e_or, q_e_not, q_e_andE, q_e_orE, q_e_notE, q_e_if, q_e_nil, q_e_cons, q_e_tup, q_e_fits, q_e_new, q_e_dnew, q_e_call, q_e_meth, q_e_make, q_e_bm, q_e_fld, q_e_gfld, q_e_chain, q_e_sl, q_e_no, q_e_some, q_e_asI, q_e_isB, q_e_yes, q_e_rng1, q_e_rng2, q_e_is, q_e_v0, q_e_v1, q_e_v2, q_e_v3, q_e_v4, q_e_v5, q_e_v6, q_e_v7, q_e_v8, q_e_v9, q_e_v10, q_e_mapc, q_e_mapn, q_e_appc, q_e_appn, q_e_rep0, q_e_rep1, q_e_rep2, q_e_rep3, q_e_rep4, q_e_rep5, q_e_rep6, q_e_rep7, q_e_rep8, q_e_rep9, q_ix_ref, q_ix_tup, q_ix_rl, q_ixO_l, q_ixO_di, q_ixO_ds, q_valR_some, q_atR_0, q_atR_1, q_atR_2, q_atR_3, q_atR_4, q_atR_last, q_atR_last1, q_atR_last3, q_atR_last4, q_atR_last2, q_set_ref, q_putR_0, q_putR_1, q_putR_2, q_putR_3, q_setO_l, q_setLR_some, q_setO_di, q_setO_ds, q_getF_ref, q_getFO_i, q_setF_ref, q_setFO_i, q_asIns_ref, q_asInsO_i, q_isLst_ref, q_isLstO_l, q_app_ref, q_appO_l, q_lts, q_pop_ref, q_popO_l, q_popO_1, q_len_ref, q_lenO_l, q_lenO_d, q_len_tup, q_len_rl, q_in_ref, q_inO_di, q_inO_ds, q_inO_l, q_in_tup, q_tup_ref, q_tupO_l, q_add_ref, q_catO_l, q_add_int, q_add_tup, q_sub_int, q_lt_int, q_le_int, q_gt_int, q_ge_int, q_neg_int, q_mul_int, q_mod_int, q_fdiv_int, q_abs_int, q_int_int, q_int_bl, q_max_int, q_min_int, q_divmod_int, q_is_non, q_isnot_non, q_is_bl, q_isnot_bl, q_str_inj, q_str_beq, q_eq_str, q_ne_str, q_eq_int, q_ne_int, q_eq_ref, q_ne_ref, q_eqO_i, q_eqO_n, q_emp, q_emp0, q_nx1, q_nx2, q_nx3, q_nx4, q_nx5, q_nx6, q_nx7, q_nx8, q_nx9, q_nxa, q_nxb, q_nxc, q_nxd, q_ne_tup2, q_mul_ref, q_mulO_1, q_ext_ref, q_extO_l, q_flat_int, q_flat_str, q_flat_bl, q_flat_non, q_eqF_int, q_eqF_str, q_isB_int, q_isB_str, q_isB_bl, q_isB_tup, q_isB_rl, q_isB_non, q_isB_ref, q_isBO_l, q_isBO_d, q_isNon_ref, q_isNon_int, q_isNon_str, q_isNon_tup, q_isNon_bl, q_isNon_non, *])
def cndW : MT := (mB (mOp opNe (mVar 2) (mNew (mFits mNil))))
def bodW : MS := (mSeq (mAsg (mBM isLst bPop (mVar 2) mNil) (mGT 2 (mGCons (mGN 3) (mGCons (mGN 4) mGNil))))
  (mSeq (mIfS (mOrT (mB (mOp opEq (mVar 3) (mCall bLen (mCons (mVar 0) mNil)))) (mAndT (mB (mOp opIsNot (mOp getIx (mVar 1) (mVar 3)) (mC .non))) (mB (mOp opNe (mOp getIx (mVar 1) (mVar 3)) (mVar 4))))) (mRet (mC .non)) mNext)
  (mIfS (mB (mOp opIs (mOp getIx (mVar 1) (mVar 3)) (mC .non))) (mSeq (mAsg (mVar 4) (mGSub (mVar 1) (mVar 3)))
  (mSeq (mAsg (mCall m_stands_behind (mCons (mOp getIx (mVar 0) (mVar 3)) (mCons (mVar 3) (mCons (mOp getIx (mVar 4) (mC (.int (0)))) (mCons (mOp getIx (mVar 4) (mC (.int (1)))) mNil))))) (mGN 5))
  (mSeq (mIfS (mB (mOp opIs (mVar 5) (mC .non))) (mRet (mC .non)) mNext)
  (mDrop (mBM isLst bExtend (mVar 2) (mCons (mVar 5) mNil)))))) mNext)))
theorem own2 {S : Store} {q w : Nat} {A B : O} {C : List (Nat × O)} (h : Own S ((q, A) :: (w, B) :: C)) : S.get q = some A ∧ S.get w = some B ∧ (q ≠ w ∧ w ≠ q) ∧ q ≠ S.next ∧ w ≠ S.next ∧ (∀ n, q ≠ S.next + n) ∧ ∀ n, w ≠ S.next + n := by
  have h0 := h.hd
  have h1 := h.tail.hd
  have la := (h.2 (q, A) (by simp)).2
  have lk := (h.2 (w, B) (by simp)).2
  dsimp only at la lk
  simp only [List.mem_cons, forall_eq_or_imp] at h0
  exact ⟨h0.1, h1.1, h0.2.2.2.1, h0.2.1, h1.2.1, fun n => by omega, fun n => by omega⟩
def encW (F : Nat → Sd) (js : List Nat) : List D := (js.map fun j => edD (j, F j)).reverse
theorem encW_nil (F : Nat → Sd) : encW F [] = [] := rfl
theorem encW_cons (F : Nat → Sd) (j : Nat) (js : List Nat) : encW F (j :: js) = encW F js ++ [edD (j, F j)] := by simp [encW]
theorem encW_app (F : Nat → Sd) (es js : List Nat) : encW F (es.reverse ++ js) = encW F js ++ es.map fun j => edD (j, F j) := by simp [encW]
theorem encW_len (F : Nat → Sd) (js : List Nat) : (encW F js).length = js.length := by simp [encW]
def fdL (F : Nat → Sd) (N : Nat) (unv : List Nat) : List D := (List.range N).map fun i => if i ∈ unv then D.non else sdD (F i)
theorem fdL_get (F : Nat → Sd) {N j : Nat} (unv : List Nat) (h : j < N) : (fdL F N unv)[j]? = some (if j ∈ unv then D.non else sdD (F j)) := by
  unfold fdL
  rw [List.getElem?_map, List.getElem?_range h]
  rfl
theorem fdL_len (F : Nat → Sd) (N : Nat) (unv : List Nat) : (fdL F N unv).length = N := by simp [fdL]
theorem fdL_set (F : Nat → Sd) (N j : Nat) (unv : List Nat) : (fdL F N unv).set j (sdD (F j)) = fdL F N (unv.filter fun i => decide (i ≠ j)) := by
  apply List.ext_getElem?
  intro i
  by_cases hi : i < N
  · rw [fdL_get _ _ hi, List.getElem?_set, fdL_len]
    by_cases e : j = i
    · subst e
      rw [if_pos rfl, if_pos hi, if_neg (by simp)]
    · rw [if_neg e, fdL_get _ _ hi]
      have : (i ∈ unv.filter fun i => decide (i ≠ j)) ↔ i ∈ unv := by
        rw [List.mem_filter]
        simp only [decide_eq_true_eq]
        exact ⟨fun h => h.1, fun h => ⟨h, fun z => e z.symm⟩⟩
      simp only [this]
  · rw [List.getElem?_eq_none (by rw [List.length_set, fdL_len]; omega), List.getElem?_eq_none (by rw [fdL_len]; omega)]
theorem fdL_all (F : Nat → Sd) (N : Nat) : fdL F N (List.range N) = List.replicate N D.non := by
  apply List.ext_getElem?
  intro i
  by_cases hi : i < N
  · rw [fdL_get _ _ hi, if_pos (List.mem_range.mpr hi), List.getElem?_replicate, if_pos hi]
  · rw [List.getElem?_eq_none (by rw [fdL_len]; omega), List.getElem?_eq_none (by simp; omega)]
theorem filter_lt {j : Nat} : ∀ {l : List Nat}, j ∈ l → (l.filter fun i => decide (i ≠ j)).length < l.length := by
  intro l h
  exact List.length_filter_lt_length_iff_exists.mpr ⟨j, h, by simp⟩
section
variable {Z : List (Nat × O)} {r : List I} {F : Nat → Sd} {q w j : Nat} {js unv : List Nat} {S : Store} {o3 o4 o5 : Option D}
theorem visit_old (hj : j < r.length) (hu : j ∉ unv) (hl : js.length ≤ 10000) (hO : Own S ((q, .lst (fdL F r.length unv)) :: (w, .lst (encW F (j :: js))) :: Z)) :
    ∃ l, l.length = 3 ∧ bodW [some (.tup (r.map I.enc)), some (.ref q), some (.ref w), o3, o4, o5] S = .ok (.nx ([some (.tup (r.map I.enc)), some (.ref q), some (.ref w)] ++ l)) (S.set w (.lst (encW F js))) := by
  have fx := own2 hO
  have h1 : ∀ T, atR (fdL F r.length unv) (j : Nat) T = .ok (sdD (F j)) T := fun T => q_atR_k (by rw [fdL_get _ _ hj, if_neg hu])
  have h2 : (((j : Nat) : Int) == ((r.map I.enc).length : Nat)) = false := by rw [List.length_map]; simp; omega
  refine ⟨[some (.int (j : Nat)), some (sdD (F j)), o5], rfl, ?_⟩
  rw [encW_cons] at fx
  clear hO hj hu hl
  unfold bodW
  simp only [edD, sdD] at *
  walk_at "m"
theorem visit_new {es : List (Nat × Sd)} {ins : I} (hi : r[j]? = some ins) (hb : behind j (F j).1 (F j).2 ins = some es) (he : ∀ e ∈ es, F e.1 = e.2) (hu : j ∈ unv) (hl : js.length ≤ 10000) (hes : es.length ≤ 2) (hO : Own S ((q, .lst (fdL F r.length unv)) :: (w, .lst (encW F (j :: js))) :: Z)) :
    ∃ l T, l.length = 3 ∧ bodW [some (.tup (r.map I.enc)), some (.ref q), some (.ref w), o3, o4, o5] S = .ok (.nx ([some (.tup (r.map I.enc)), some (.ref q), some (.ref w)] ++ l)) T ∧
      Own T ((q, .lst (fdL F r.length (unv.filter fun i => decide (i ≠ j)))) :: (w, .lst (encW F ((es.map (·.1)).reverse ++ js))) :: Z) := by
  have hj := lt_of_get hi
  have fx := own2 hO
  have h1 : ∀ T, atR (fdL F r.length unv) (j : Nat) T = .ok .non T := fun T => q_atR_k (by rw [fdL_get _ _ hj, if_pos hu])
  have h2 : (((j : Nat) : Int) == ((r.map I.enc).length : Nat)) = false := by rw [List.length_map]; simp; omega
  have h3 : ∀ T, atR (r.map I.enc) (j : Nat) T = .ok ins.enc T := fun T => q_atR_k (by rw [List.getElem?_map, hi]; rfl)
  have h4 := fun T => behind_ok ins j (F j).1 (F j).2 hb T
  have h5 : putR (fdL F r.length unv) (j : Nat) (sdD (F j)) = some (fdL F r.length (unv.filter fun i => decide (i ≠ j))) := by rw [q_putR_k (by rw [fdL_len]; exact hj), fdL_set]
  have h6 : es.map edD = (es.map (·.1)).map fun j => edD (j, F j) := by
    rw [List.map_map]
    refine List.map_congr_left fun e h => ?_
    show edD e = edD (e.1, F e.1)
    rw [he e h]
  have h7 : (encW F js).length + (es.map edD).length ≤ 16000000 := by rw [encW_len, List.length_map]; omega
  rw [encW_app, ← h6]
  have hend : ∀ o', Own (((S.set w (.lst (encW F js))).set q (.lst (fdL F r.length (unv.filter fun i => decide (i ≠ j))))).push (.lst (es.map edD)) |>.set w (.lst o')) ((q, .lst (fdL F r.length (unv.filter fun i => decide (i ≠ j)))) :: (w, .lst o') :: Z) := fun o' => hO.set1.set0.garb.set1
  refine ⟨[some (.int (j : Nat)), some (sdD (F j)), some (.ref S.next)], _, rfl, ?_, hend _⟩
  rw [encW_cons] at fx
  clear hO hj hu hl hb hi he hes h6 hend
  unfold bodW
  simp only [edD, sdD] at *
  walk_at "m"
end
theorem behind_len {a h l : Nat} {ins : I} {es : List (Nat × Sd)} (hb : behind a h l ins = some es) : es.length ≤ 2 := by
  cases ins <;> simp only [behind] at hb <;> first | (cases hb; simp) | (split at hb <;> first | (cases hb; simp) | cases hb)
theorem stands_loop {Z : List (Nat × O)} {N : Nat} {r : List I} {F : Nat → Sd} (hS : Stand N r F) (hl : r.length ≤ 1000) {q w : Nat} : ∀ (n : Nat) (unv js : List Nat) (l : MM.Env) (S : Store), 3 * unv.length + js.length < n → l.length = 3 → js.length + 3 * unv.length ≤ 3001 → (∀ j ∈ js, j < r.length) →
    Own S ((q, .lst (fdL F r.length unv)) :: (w, .lst (encW F js)) :: Z) →
    OkD (mWhile cndW bodW n ([some (.tup (r.map I.enc)), some (.ref q), some (.ref w)] ++ l) S) (fun f T => Own T Z ∧ ∃ l, f = .nx ([some (.tup (r.map I.enc)), some (.ref q), some (.ref w)] ++ l))
  | 0, _, _, _, _, h, _, _, _, _ => absurd h (by omega)
  | n + 1, unv, js, l, S, hn, h3, hc, hj, hO => by
    match l, h3 with
    | [o3, o4, o5], _ =>
    unfold mWhile
    have hcn : cndW [some (.tup (r.map I.enc)), some (.ref q), some (.ref w), o3, o4, o5] S = .ok (!(encW F js).isEmpty) (S.push (.lst [])) := by
      have fx := own2 hO
      clear hO
      unfold cndW
      walk_at "m"
    show OkD ((cndW [some (.tup (r.map I.enc)), some (.ref q), some (.ref w), o3, o4, o5] S).bind _) _
    rw [hcn, R.bind_ok]
    cases js with
    | nil => exact OkD.ok ⟨hO.garb.tail.tail, [o3, o4, o5], rfl⟩
    | cons j js =>
      rw [encW_cons, q_emp]
      have hjl := hj j (by simp)
      by_cases hu : j ∈ unv
      · obtain ⟨es, hb, hes⟩ := hS.all j r[j] (List.getElem?_eq_getElem hjl)
        have hlt := filter_lt hu
        obtain ⟨l', T, hl', e1, hO'⟩ := visit_new (o3 := o3) (o4 := o4) (o5 := o5) (List.getElem?_eq_getElem hjl) hb (fun e h => (hes e h).2) hu (by simp at hc; omega) (behind_len hb) (hO.garb (o := .lst []))
        rw [Bool.not_false, if_pos rfl]
        show OkD ((bodW [some (.tup (r.map I.enc)), some (.ref q), some (.ref w), o3, o4, o5] _).bind _) _
        rw [e1, R.bind_ok]
        have hbl := behind_len hb
        refine stands_loop hS hl n _ _ l' T ?_ hl' ?_ ?_ hO'
        · simp only [List.length_append, List.length_reverse, List.length_map, List.length_cons] at hn ⊢; omega
        · simp only [List.length_append, List.length_reverse, List.length_map, List.length_cons] at hc ⊢; omega
        · intro i hi
          rcases List.mem_append.mp hi with hi | hi
          · obtain ⟨e, he, rfl⟩ := List.mem_map.mp (List.mem_reverse.mp hi)
            exact (hes e he).1
          · exact hj i (by simp [hi])
      · obtain ⟨l', hl', e1⟩ := visit_old (o3 := o3) (o4 := o4) (o5 := o5) hjl hu (by simp at hc; omega) (hO.garb (o := .lst []))
        rw [Bool.not_false, if_pos rfl]
        show OkD ((bodW [some (.tup (r.map I.enc)), some (.ref q), some (.ref w), o3, o4, o5] _).bind _) _
        rw [e1, R.bind_ok]
        exact stands_loop hS hl n unv js l' _ (by simp at hn; omega) hl' (by simp at hc; omega) (fun i hi => hj i (by simp [hi])) ((hO.garb (o := .lst [])).set1)
theorem stands_ok {N : Nat} {r : List I} {F : Nat → Sd} (hS : Stand N r F) (hl : r.length ≤ 1000) {Z : List (Nat × O)} (S : Store) (hZ : Own S Z) : ∃ q T, m_stands_of [.tup (r.map I.enc)] S = .ok (.ref q) T ∧ Own T Z := by
  have hB : b_stands_of = mSeq (mPar 1 2 (mOp opMul (mNew (mFits (mCons (mC .non) mNil))) (mCall bLen (mCons (mVar 0) mNil))) (mNew (mFits (mCons (mTup (mCons (mC (.int (0))) (mCons (mTup (mCons (mC (.int (0))) (mCons (mC (.int (0))) mNil))) mNil))) mNil))))
    (mSeq (mWhile cndW bodW WN) (mRet (mVar 1))) := rfl
  have hO : Own (((S.push (.lst [.non])).push (.lst (List.replicate (r.map I.enc).length .non))).push (.lst [.tup [.int 0, .tup [.int 0, .int 0]]])) ((S.next + 1, .lst (fdL F r.length (List.range r.length))) :: (S.next + 1 + 1, .lst (encW F [0])) :: Z) := by
    have h5 := (((hZ.garb (o := .lst [.non])).push (o := .lst (List.replicate (r.map I.enc).length .non))).push (o := .lst [.tup [.int 0, .tup [.int 0, .int 0]]])).perm (List.Perm.swap _ _ _)
    simp only [Store.next_push] at h5
    rw [fdL_all, encW_cons, hS.zero]
    rw [List.length_map] at *
    exact h5
  generalize hT0 : ((S.push (.lst [.non])).push (.lst (List.replicate (r.map I.enc).length .non))).push (.lst [.tup [.int 0, .tup [.int 0, .int 0]]]) = T0 at hO
  obtain ⟨f, T, e1, hZ', l, rfl⟩ := (stands_loop hS hl WN (List.range r.length) [0] [none, none, none] T0 (by rw [List.length_range]; show 3 * r.length + 1 < 1000000; omega) rfl (by simp; omega) (by intro j hj; simp at hj; subst hj; exact hS.pos) hO).ex
  have hlen : (r.map I.enc).length ≤ 16000000 := by rw [List.length_map]; omega
  replace e1 : mWhile cndW bodW WN [some (.tup (r.map I.enc)), some (.ref (S.next + 1)), some (.ref (S.next + 1 + 1)), none, none, none] T0 = .ok (.nx (some (.tup (r.map I.enc)) :: some (.ref (S.next + 1)) :: some (.ref (S.next + 1 + 1)) :: l)) T := e1
  refine ⟨S.next + 1, T, ?_, hZ'⟩
  unfold m_stands_of
  rw [hB]
  clear hB hO hS hZ
  walk_at "m"
end PP

/-! k83, plain: is_code is True, run is the abstract run. -/
namespace PP
open PySem L2 MM
local macro_rules
  | `(tactic| walk_at "m") => `(tactic| simp only [R.bind_ok, ofString_strOk, List.length_cons, List.length_nil, List.set_cons_zero, List.set_cons_succ, if_true, if_false, reduceIte, Bool.not_true, Bool.not_false, List.any_cons, List.any_nil, List.all_cons, List.all_nil, Bool.or_true, Bool.or_false, Bool.true_or, Bool.false_or, Bool.and_true, Bool.true_and, Bool.false_and, Bool.and_false, String.reduceEq, String.reduceBEq, decide_true, decide_false, Store.get_set, Store.get_push, Store.next_set, Store.next_push, fitsN, valD_put_same, List.lookup_cons, List.lookup_nil, List.mem_cons, List.not_mem_nil, or_false, putD, Option.isSome_some, Option.isSome_none, Nat.reduceSub, Int.cast_ofNat_Int, Nat.reduceLT, Nat.reduceAdd, Nat.reduceLeDiff, Nat.reduceEqDiff, Int.reduceNeg, List.replicate, Bool.false_eq_true, reduceCtorEq, beq_self_eq_true, ne_eq, not_true_eq_false, not_false_eq_true, List.append_nil, List.nil_append, List.cons_append, and_true, true_and, Int.reduceEq, Int.reduceBEq, Int.reduceLT, Int.reduceLE, q_k_drop, q_k_ret, q_k_ifs, q_k_asg2, q_k_asg, q_k_par2, q_k_par, q_k_keep, q_k_gsub2, q_k_gsub, q_k_gcons, q_k_op, q_k_and, q_k_or, q_k_not, q_k_andE2, q_k_andE, q_k_orE2, q_k_orE, q_k_notE2, q_k_notE, q_k_if, q_k_cons2, q_k_cons, q_k_tup, q_k_fits, q_k_new, q_k_meth3, q_k_meth2, q_k_meth, q_k_make2, q_k_make, q_k_bm, q_k_gfld, q_k_chain4, q_k_chain3, q_k_chain2, q_k_chain, q_k_sl3, q_k_sl2, q_k_sl, q_k_rng2, q_e_seq, q_e_seqK, q_e_seqKr, q_e_def, q_e_end, q_e_endr, q_e_drop, q_e_ret, q_e_ifs, q_e_asg, q_e_next, q_e_par, q_e_gn, q_e_gsub, q_e_gnil, q_e_gcons, q_e_gt, q_e_c, q_e_op, q_e_un, q_e_b, q_e_asB, q_e_and, q_e_or, q_e_not, q_e_andE, q_e_orE, q_e_notE, q_e_if, q_e_nil, q_e_cons, q_e_tup, q_e_fits, q_e_new, q_e_dnew, q_e_call, q_e_meth, q_e_make, q_e_bm, q_e_fld, q_e_gfld, q_e_chain, q_e_sl, q_e_no, q_e_some, q_e_asI, q_e_isB, q_e_yes, q_e_rng1, q_e_rng2, q_e_is, q_e_v0, q_e_v1, q_e_v2, q_e_v3, q_e_v4, q_e_v5, q_e_v6, q_e_v7, q_e_v8, q_e_v9, q_e_v10, q_e_mapc, q_e_mapn, q_e_appc, q_e_appn, q_e_rep0, q_e_rep1, q_e_rep2, q_e_rep3, q_e_rep4, q_e_rep5, q_e_rep6, q_e_rep7, q_e_rep8, q_e_rep9, q_ix_ref, q_ix_tup, q_ix_rl, q_ixO_l, q_ixO_di, q_ixO_ds, q_valR_some, q_atR_0, q_atR_1, q_atR_2, q_atR_3, q_atR_4, q_atR_last, q_atR_last1, q_atR_last3, q_atR_last4, q_atR_last2, q_set_ref, q_putR_0, q_putR_1, q_putR_2, q_putR_3, q_setO_l, q_setLR_some, q_setO_di, q_setO_ds, q_getF_ref, q_getFO_i, q_setF_ref, q_setFO_i, q_asIns_ref, q_asInsO_i, q_isLst_ref, q_isLstO_l, q_app_ref, q_appO_l, q_lts, q_pop_ref, q_popO_l, q_popO_1, q_len_ref, q_lenO_l, q_lenO_d, q_len_tup, q_len_rl, q_in_ref, q_inO_di, q_inO_ds, q_inO_l, q_in_tup, q_tup_ref, q_tupO_l, q_add_ref, q_catO_l, q_add_int, q_add_tup, q_sub_int, q_lt_int, q_le_int, q_gt_int, q_ge_int, q_neg_int, q_mul_int, q_mod_int, q_fdiv_int, q_abs_int, q_int_int, q_int_bl, q_max_int, q_min_int, q_divmod_int, q_is_non, q_isnot_non, q_is_bl, q_isnot_bl, q_str_inj, q_str_beq, q_eq_str, q_ne_str, q_eq_int, q_ne_int, q_eq_ref, q_ne_ref, q_eqO_i, q_eqO_n, q_emp, q_emp0, q_nx1, q_nx2, q_nx3, q_nx4, q_nx5, q_nx6, q_nx7, q_nx8, q_nx9, q_nxa, q_nxb, q_nxc, q_nxd, q_ne_tup2, q_mul_ref, q_mulO_1, q_ext_ref, q_extO_l, q_flat_int, q_flat_str, q_flat_bl, q_flat_non, q_eqF_int, q_eqF_str, q_isB_int, q_isB_str, q_isB_bl, q_isB_tup, q_isB_rl, q_isB_non, q_isB_ref, q_isBO_l, q_isBO_d, q_isNon_ref, q_isNon_int, q_isNon_str, q_isNon_tup, q_isNon_bl, q_isNon_non, *])
theorem insOk_of {N : Nat} {r : List I} {F : Nat → Sd} (hS : Stand N r F) {i : Nat} {ins : I} (hi : r[i]? = some ins) : InsOk r.length N ins := by
  obtain ⟨es, hb, he⟩ := hS.all i ins hi
  cases ins with
  | push v => exact hS.push _ _ hi
  | call n => exact hS.call _ _ hi
  | go n =>
    cases hb
    exact (he _ List.mem_cons_self).1
  | «unless» n =>
    simp only [behind] at hb
    split at hb
    · cases hb
      exact (he _ (List.mem_cons_of_mem _ List.mem_cons_self)).1
    · cases hb
  | opn n =>
    simp only [behind] at hb
    split at hb
    · cases hb
      exact (he _ (List.mem_cons_of_mem _ List.mem_cons_self)).1
    · cases hb
  | close n =>
    simp only [behind] at hb
    split at hb
    · cases hb
    · cases hb
      exact (he _ (List.mem_cons_of_mem _ List.mem_cons_self)).1
  | _ => exact trivial
theorem all_true {β : Type} (l : List β) (S : Store) : bAll (l.map fun _ => D.bl true) S = .ok (.bl true) S := by
  have h : boolsD (l.map fun _ => D.bl true) = some (l.map fun _ => true) := by
    induction l with
    | nil => rfl
    | cons x l ih =>
      rw [List.map_cons, List.map_cons]
      unfold boolsD
      rw [ih]
  unfold bAll
  rw [h]
  dsimp only
  congr 2
  simp
theorem form_ok {N : Nat} {r : List I} {F : Nat → Sd} (hS : Stand N r F) (hl : r.length ≤ 1000) (S : Store) : m_is_routine_form [.tup (r.map I.enc), .int (N : Nat)] S = .ok (.bl true) S := by
  have hp := hS.pos
  have h1 : decide ((1 : Int) ≤ ((r.map I.enc).length : Nat)) = true := decide_eq_true (by rw [List.length_map]; omega)
  have h2 : decide ((((r.map I.enc).length : Nat) : Int) ≤ 1000) = true := decide_eq_true (by rw [List.length_map]; omega)
  have hlc : mLc (mIS (mVar 0)) [2] (mGN 2) mYes (mCall m_is_instruction (mCons (mVar 2) (mCons (mCall bLen (mCons (mVar 0) mNil)) (mCons (mVar 1) mNil)))) [some (.tup (r.map I.enc)), some (.int (N : Nat)), none] S = .ok ((r.map I.enc).map fun _ => D.bl true) S := by
    have hx := lc_dat (a := mVar 0) (m := mCall m_is_instruction (mCons (mVar 2) (mCons (mCall bLen (mCons (mVar 0) mNil)) (mCons (mVar 1) mNil)))) (v := 2) (ρ := [some (.tup (r.map I.enc)), some (.int (N : Nat)), none]) (S := S) (ds := r.map I.enc) (f := fun _ => D.bl true) (P := fun T => T = S) rfl rfl ?_ (by rw [List.length_map]; omega)
    · obtain ⟨T, h, hT⟩ := hx
      rw [h, hT]
    · rintro d hd T rfl
      obtain ⟨ins, hi, rfl⟩ := List.mem_map.mp hd
      obtain ⟨i, hlt, rfl⟩ := List.getElem_of_mem hi
      have h3 := is_instruction_ok r[i] r.length N (insOk_of hS (List.getElem?_eq_getElem hlt))
      refine ⟨_, ?_, rfl⟩
      rw [← List.length_map (f := I.enc)] at h3
      clear h1 h2 hS hp
      simp only [wipeE]
      walk_at "m"
  have h4 := fun S => all_true (r.map I.enc) S
  clear hS hp
  unfold m_is_routine_form b_is_routine_form
  walk_at "m"
theorem code_ok {rs : List (List I)} (hg : KGood rs) {start : Nat} (h : start < rs.length) {Z : List (Nat × O)} (S : Store) (hZ : Own S Z) : ∃ T, m_is_code_value [codeD start rs] S = .ok (.bl true) T ∧ Own T Z := by
  have hg1 := hg.1
  have h1 : decide ((1 : Int) ≤ ((rs.map fun r => D.tup (r.map I.enc)).length : Nat)) = true := decide_eq_true (by rw [List.length_map]; omega)
  have h2 : decide ((((rs.map fun r => D.tup (r.map I.enc)).length : Nat) : Int) ≤ 400) = true := decide_eq_true (by rw [List.length_map]; omega)
  have h3 : decide ((((rs.map fun r => D.tup (r.map I.enc)).length : Nat) : Int) ≤ (start : Nat)) = false := decide_eq_false (by rw [List.length_map]; omega)
  have hlen : (rs.map fun r => D.tup (r.map I.enc)).length ≤ 16000000 := by rw [List.length_map]; omega
  have h5 := is_count_nat
  have h4 := fun S => all_true (rs.map fun r => D.tup (r.map I.enc)) S
  have hl1 : ∀ S, mLc (mIS (mVar 2)) [3] (mGN 3) mYes (mCall m_is_routine_form (mCons (mVar 3) (mCons (mCall bLen (mCons (mVar 2) mNil)) mNil))) [some (codeD start rs), some (.int (start : Nat)), some (.tup (rs.map fun r => D.tup (r.map I.enc))), none] S = .ok ((rs.map fun r => D.tup (r.map I.enc)).map fun _ => D.bl true) S := by
    intro S
    have hx := lc_dat (a := mVar 2) (m := mCall m_is_routine_form (mCons (mVar 3) (mCons (mCall bLen (mCons (mVar 2) mNil)) mNil))) (v := 3) (ρ := [some (codeD start rs), some (.int (start : Nat)), some (.tup (rs.map fun r => D.tup (r.map I.enc))), none]) (S := S) (ds := rs.map fun r => D.tup (r.map I.enc)) (f := fun _ => D.bl true) (P := fun T => T = S) rfl rfl ?_ hlen
    · obtain ⟨T, h, hT⟩ := hx
      rw [h, hT]
    · rintro d hd T rfl
      obtain ⟨r, hi, rfl⟩ := List.mem_map.mp hd
      obtain ⟨hl, F, hS⟩ := hg.2 r hi
      have h3 := form_ok hS hl
      rw [← List.length_map (f := fun r : List I => D.tup (r.map I.enc)) (as := rs)] at h3
      refine ⟨_, ?_, rfl⟩
      clear h1 h2 hg h4 h5
      simp only [wipeE]
      walk_at "m"
  have hl2 : ∃ T, mLc (mIS (mVar 2)) [3] (mGN 3) mYes (mOp opIsNot (mCall m_stands_of (mCons (mVar 3) mNil)) (mC .non)) [some (codeD start rs), some (.int (start : Nat)), some (.tup (rs.map fun r => D.tup (r.map I.enc))), none] S = .ok ((rs.map fun r => D.tup (r.map I.enc)).map fun _ => D.bl true) T ∧ Own T Z := by
    have hx := lc_dat (a := mVar 2) (m := mOp opIsNot (mCall m_stands_of (mCons (mVar 3) mNil)) (mC .non)) (v := 3) (ρ := [some (codeD start rs), some (.int (start : Nat)), some (.tup (rs.map fun r => D.tup (r.map I.enc))), none]) (S := S) (ds := rs.map fun r => D.tup (r.map I.enc)) (f := fun _ => D.bl true) (P := fun T => Own T Z) rfl hZ ?_ hlen
    · obtain ⟨T, h, hT⟩ := hx
      exact ⟨T, h, hT⟩
    · rintro d hd T hT
      obtain ⟨r, hi, rfl⟩ := List.mem_map.mp hd
      obtain ⟨hl, F, hS⟩ := hg.2 r hi
      obtain ⟨q, T', hq, hT'⟩ := stands_ok hS hl T hT
      refine ⟨T', ?_, hT'⟩
      clear h1 h2 hg h4 h5 hl1
      simp only [wipeE]
      walk_at "m"
  obtain ⟨T, hl2, hT⟩ := hl2
  refine ⟨T, ?_, hT⟩
  clear hg hg1 h
  unfold m_is_code_value b_is_code_value
  unfold codeD at *
  walk_at "m"
theorem run_ok {rs : List (List I)} (hg : KGood rs) {start most : Nat} (h : start < rs.length) (hm : most ≤ 60000) {Z : List (Nat × O)} (S : Store) (hZ : Own S Z) :
    ∃ T, m_run [codeD start rs, .int (most : Nat)] S = .ok (resD most (aRun rs most 1 (m0 start))) T ∧ Own T Z := by
  obtain ⟨T1, h1, hZ1⟩ := code_ok hg h S hZ
  obtain ⟨T2, h2, hZ2⟩ := mach_run hg h hm T1 hZ1
  have h3 := is_count_nat
  have h4 : decide ((60000 : Int) < ((most : Nat) : Int)) = false := decide_eq_false (by omega)
  refine ⟨T2, ?_, hZ2⟩
  clear hg h hm
  unfold m_run b_run m_want_code b_want_code
  walk_at "m"
end PP

/-! k83, plain: expressions, how they are laid, the stands of what is laid. -/
namespace PP
open PySem L2 MM
inductive Xp where
  | num (v : Int) | need (k : Nat) | soFar | turn | op (w : Op) (a b : Xp) | ite (a b c : Xp) | loop (t s e : Xp)
def Xp.enc : Xp → D
  | .num v => .int v
  | .need k => .tup [.str (Str.ofString "need"), .int (k : Nat)]
  | .soFar => .tup [.str (Str.ofString "so far")]
  | .turn => .tup [.str (Str.ofString "turn")]
  | .op w a b => .tup [.str (Str.ofString w.w), a.enc, b.enc]
  | .ite a b c => .tup [.str (Str.ofString "if"), a.enc, b.enc, c.enc]
  | .loop t s e => .tup [.str (Str.ofString "loop"), t.enc, s.enc, e.enc]
def Xp.len : Xp → Nat
  | .num _ => 1
  | .need _ => 1
  | .soFar => 1
  | .turn => 1
  | .op _ a b => a.len + b.len + 1
  | .ite a b c => a.len + b.len + c.len + 2
  | .loop t s e => t.len + s.len + e.len + 2
def Xp.dep : Xp → Nat
  | .op _ a b => max a.dep b.dep + 1
  | .ite a b c => max a.dep (max b.dep c.dep) + 1
  | .loop t s e => max t.dep (max s.dep e.dep) + 1
  | _ => 0
/-- many routines; l loops around -/
def Xp.wf (many : Nat) : Nat → Xp → Prop
  | _, .num v => B v
  | _, .need k => k < many
  | l, .soFar => 0 < l
  | l, .turn => 0 < l
  | l, .op _ a b => a.wf many l ∧ b.wf many l
  | l, .ite a b c => a.wf many l ∧ b.wf many l ∧ c.wf many l
  | l, .loop t s e => t.wf many l ∧ s.wf many l ∧ e.wf many (l + 1)
def lay : Xp → Nat → List I
  | .num v, _ => [.push v]
  | .need k, _ => [.call k]
  | .soFar, _ => [.soFar]
  | .turn, _ => [.turn]
  | .op w a b, s => lay a s ++ lay b (s + a.len) ++ [.op w]
  | .ite a b c, s => lay a s ++ [.unless (s + a.len + b.len + 2)] ++ lay b (s + a.len + 1) ++ [.go (s + a.len + b.len + 2 + c.len)] ++ lay c (s + a.len + b.len + 2)
  | .loop t u e, s => lay t s ++ lay u (s + t.len) ++ [.opn (s + t.len + u.len + 1 + e.len + 1)] ++ lay e (s + t.len + u.len + 1) ++ [.close (s + t.len + u.len + 1)]
theorem lay_len : ∀ (e : Xp) (s : Nat), (lay e s).length = e.len
  | .num _, _ => rfl
  | .need _, _ => rfl
  | .soFar, _ => rfl
  | .turn, _ => rfl
  | .op w a b, s => by simp only [lay, List.length_append, lay_len a, lay_len b, List.length_singleton, Xp.len]
  | .ite a b c, s => by simp only [lay, List.length_append, lay_len a, lay_len b, lay_len c, List.length_singleton, Xp.len]; omega
  | .loop a b c, s => by simp only [lay, List.length_append, lay_len a, lay_len b, lay_len c, List.length_singleton, Xp.len]; omega
theorem len_pos : ∀ e : Xp, 0 < e.len
  | .num _ => Nat.one_pos
  | .need _ => Nat.one_pos
  | .soFar => Nat.one_pos
  | .turn => Nat.one_pos
  | .op .. => Nat.succ_pos _
  | .ite .. => Nat.succ_pos _
  | .loop .. => Nat.succ_pos _
/-- the stands ahead of each instruction -/
def sts : Xp → Nat → Nat → List Sd
  | .op _ a b, h, l => sts a h l ++ sts b (h + 1) l ++ [(h + 2, l)]
  | .ite a b c, h, l => sts a h l ++ [(h + 1, l)] ++ sts b h l ++ [(h + 1, l)] ++ sts c h l
  | .loop t u e, h, l => sts t h l ++ sts u (h + 1) l ++ [(h + 2, l)] ++ sts e h (l + 1) ++ [(h + 1, l + 1)]
  | _, h, l => [(h, l)]
theorem sts_len : ∀ (e : Xp) (h l : Nat), (sts e h l).length = e.len
  | .num _, _, _ => rfl
  | .need _, _, _ => rfl
  | .soFar, _, _ => rfl
  | .turn, _, _ => rfl
  | .op w a b, h, l => by simp only [sts, List.length_append, sts_len a, sts_len b, List.length_singleton, Xp.len]
  | .ite a b c, h, l => by simp only [sts, List.length_append, sts_len a, sts_len b, sts_len c, List.length_singleton, Xp.len]; omega
  | .loop a b c, h, l => by simp only [sts, List.length_append, sts_len a, sts_len b, sts_len c, List.length_singleton, Xp.len]; omega
theorem sts_head : ∀ (e : Xp) (h l : Nat), (sts e h l)[0]? = some (h, l)
  | .num _, _, _ => rfl
  | .need _, _, _ => rfl
  | .soFar, _, _ => rfl
  | .turn, _, _ => rfl
  | .op w a b, h, l => by
    simp only [sts, List.append_assoc]
    rw [List.getElem?_append_left (by rw [sts_len]; exact len_pos a), sts_head a]
  | .ite a b c, h, l => by
    simp only [sts, List.append_assoc]
    rw [List.getElem?_append_left (by rw [sts_len]; exact len_pos a), sts_head a]
  | .loop a b c, h, l => by
    simp only [sts, List.append_assoc]
    rw [List.getElem?_append_left (by rw [sts_len]; exact len_pos a), sts_head a]
/-- the list L stands in f from s on -/
def Sub {α : Type} (f : Nat → Option α) (s : Nat) (L : List α) : Prop := ∀ i x, L[i]? = some x → f (s + i) = some x
theorem sub_app {α : Type} {f : Nat → Option α} {s : Nat} {L M : List α} : Sub f s (L ++ M) ↔ Sub f s L ∧ Sub f (s + L.length) M := by
  constructor
  · intro h
    refine ⟨fun i x hx => h i x ?_, fun i x hx => ?_⟩
    · rw [List.getElem?_append_left (lt_of_get hx)]; exact hx
    · have := h (L.length + i) x (by rw [List.getElem?_append_right (by omega), Nat.add_sub_cancel_left]; exact hx)
      rw [← Nat.add_assoc] at this
      exact this
  · rintro ⟨h1, h2⟩ i x hx
    by_cases c : i < L.length
    · rw [List.getElem?_append_left c] at hx
      exact h1 i x hx
    · rw [List.getElem?_append_right (by omega)] at hx
      have := h2 _ x hx
      rw [show s + L.length + (i - L.length) = s + i by omega] at this
      exact this
theorem sub_one {α : Type} {f : Nat → Option α} {s : Nat} {x : α} : Sub f s [x] ↔ f s = some x := by
  constructor
  · intro h
    exact h 0 x rfl
  · intro h i y hy
    cases i with
    | zero => cases hy; exact h
    | succ i => cases hy
/-- from a on, before b: each instruction's ways go to places from a to b, with the right stands -/
def Fit (ri : Nat → Option I) (F : Nat → Sd) (a b : Nat) : Prop := ∀ i, a ≤ i → i < b → ∃ ins es, ri i = some ins ∧ behind i (F i).1 (F i).2 ins = some es ∧ ∀ e ∈ es, (a ≤ e.1 ∧ e.1 ≤ b) ∧ F e.1 = e.2
theorem Fit.in {ri : Nat → Option I} {F : Nat → Sd} {a b c d i : Nat} (h : Fit ri F a b) (h1 : c ≤ a) (h2 : b ≤ d) (h3 : a ≤ i) (h4 : i < b) : ∃ ins es, ri i = some ins ∧ behind i (F i).1 (F i).2 ins = some es ∧ ∀ e ∈ es, (c ≤ e.1 ∧ e.1 ≤ d) ∧ F e.1 = e.2 := by
  obtain ⟨ins, es, e1, e2, e3⟩ := h i h3 h4
  exact ⟨ins, es, e1, e2, fun e he => ⟨⟨Nat.le_trans h1 (e3 e he).1.1, Nat.le_trans (e3 e he).1.2 h2⟩, (e3 e he).2⟩⟩
theorem fit_one {ri : Nat → Option I} {F : Nat → Sd} {s h l : Nat} {ins : I} {es : List (Nat × Sd)} (h1 : ri s = some ins) (h2 : F s = (h, l)) (h3 : behind s h l ins = some es) (a b : Nat) (h4 : ∀ e ∈ es, (a ≤ e.1 ∧ e.1 ≤ b) ∧ F e.1 = e.2) :
    ∃ ins es, ri s = some ins ∧ behind s (F s).1 (F s).2 ins = some es ∧ ∀ e ∈ es, (a ≤ e.1 ∧ e.1 ≤ b) ∧ F e.1 = e.2 := ⟨ins, es, h1, by rw [h2]; exact h3, h4⟩
abbrev oF (F : Nat → Sd) : Nat → Option Sd := fun i => some (F i)
theorem fit_lay {many : Nat} {ri : Nat → Option I} {F : Nat → Sd} : ∀ (e : Xp) (s h l : Nat), e.wf many l → Sub ri s (lay e s) → Sub (oF F) s (sts e h l) → F (s + e.len) = (h + 1, l) → Fit ri F s (s + e.len)
  | .num v, s, h, l, hw, h1, h2, h3 => by
    intro i hi1 hi2
    obtain rfl : i = s := by simp only [Xp.len] at hi2; omega
    refine fit_one (sub_one.mp h1) (Option.some.inj (sub_one.mp h2)) rfl _ _ ?_
    intro e he
    rw [List.mem_singleton.mp he]
    exact ⟨⟨by dsimp only; omega, by dsimp only [Xp.len]; omega⟩, h3⟩
  | .need v, s, h, l, hw, h1, h2, h3 => by
    intro i hi1 hi2
    obtain rfl : i = s := by simp only [Xp.len] at hi2; omega
    refine fit_one (sub_one.mp h1) (Option.some.inj (sub_one.mp h2)) rfl _ _ ?_
    intro e he
    rw [List.mem_singleton.mp he]
    exact ⟨⟨by dsimp only; omega, by dsimp only [Xp.len]; omega⟩, h3⟩
  | .soFar, s, h, l, hw, h1, h2, h3 => by
    intro i hi1 hi2
    obtain rfl : i = s := by simp only [Xp.len] at hi2; omega
    refine fit_one (es := [(i + 1, (h + 1, l))]) (sub_one.mp h1) (Option.some.inj (sub_one.mp h2)) (by simp only [behind]; exact if_neg (by simp only [Xp.wf] at hw; omega)) _ _ ?_
    intro e he
    rw [List.mem_singleton.mp he]
    exact ⟨⟨by dsimp only; omega, by dsimp only [Xp.len]; omega⟩, h3⟩
  | .turn, s, h, l, hw, h1, h2, h3 => by
    intro i hi1 hi2
    obtain rfl : i = s := by simp only [Xp.len] at hi2; omega
    refine fit_one (es := [(i + 1, (h + 1, l))]) (sub_one.mp h1) (Option.some.inj (sub_one.mp h2)) (by simp only [behind]; exact if_neg (by simp only [Xp.wf] at hw; omega)) _ _ ?_
    intro e he
    rw [List.mem_singleton.mp he]
    exact ⟨⟨by dsimp only; omega, by dsimp only [Xp.len]; omega⟩, h3⟩
  | .op w a b, s, h, l, hw, h1, h2, h3 => by
    simp only [lay, sts, sub_app, sub_one, List.length_append, List.length_singleton, lay_len, sts_len] at h1 h2
    obtain ⟨⟨a1, b1⟩, c1⟩ := h1
    obtain ⟨⟨a2, b2⟩, c2⟩ := h2
    simp only [Xp.len, ← Nat.add_assoc] at h3 c1 c2 ⊢
    have hb0 := sub_head b2
    have c2' := Option.some.inj c2
    have fa := fit_lay a s h l hw.1 a1 a2 hb0
    have fb := fit_lay b (s + a.len) (h + 1) l hw.2 b1 b2 c2'
    intro i hi1 hi2
    by_cases q1 : i < s + a.len
    · exact fa.in (Nat.le_refl _) (by omega) hi1 q1
    · by_cases q2 : i < s + a.len + b.len
      · exact fb.in (by omega) (by omega) (by omega) q2
      · obtain rfl : i = s + a.len + b.len := by omega
        refine fit_one (es := [(s + a.len + b.len + 1, (h + 1, l))]) c1 c2' (by simp only [behind]; exact if_pos (Nat.succ_lt_succ (Nat.succ_pos _))) _ _ ?_
        intro e he
        rw [List.mem_singleton.mp he]
        exact ⟨⟨by dsimp only; omega, by dsimp only; omega⟩, h3⟩
  | .ite a b c, s, h, l, hw, h1, h2, h3 => by
    simp only [lay, sts, sub_app, sub_one, List.length_append, List.length_singleton, lay_len, sts_len] at h1 h2
    obtain ⟨⟨⟨⟨a1, u1⟩, b1⟩, g1⟩, c1⟩ := h1
    obtain ⟨⟨⟨⟨a2, u2⟩, b2⟩, g2⟩, c2⟩ := h2
    simp only [Xp.len, ← Nat.add_assoc] at *
    rw [show s + a.len + 1 + b.len + 1 = s + a.len + b.len + 2 by omega] at c1 c2
    have u2' := Option.some.inj u2
    have g2' := Option.some.inj g2
    have fa := fit_lay a s h l hw.1 a1 a2 u2'
    have fb := fit_lay b (s + a.len + 1) h l hw.2.1 b1 b2 g2'
    have hc0 := sub_head c2
    have hb0 := sub_head b2
    have fc := fit_lay c (s + a.len + b.len + 2) h l hw.2.2 c1 c2 (by rw [← h3]; congr 1; omega)
    have h3' : F (s + a.len + b.len + 2 + c.len) = (h + 1, l) := by rw [← h3]; congr 1; omega
    intro i hi1 hi2
    by_cases q1 : i < s + a.len
    · exact fa.in (Nat.le_refl _) (by omega) hi1 q1
    · by_cases q2 : i = s + a.len
      · subst q2
        refine fit_one (es := [(s + a.len + 1, (h, l)), (s + a.len + b.len + 2, (h, l))]) u1 u2' (by simp only [behind]; exact if_pos (Nat.succ_pos _)) _ _ ?_
        intro e he
        rcases List.mem_cons.mp he with rfl | he
        · exact ⟨⟨by dsimp only; omega, by dsimp only; omega⟩, hb0⟩
        · rw [List.mem_singleton.mp he]
          exact ⟨⟨by dsimp only; omega, by dsimp only; omega⟩, hc0⟩
      · by_cases q3 : i < s + a.len + 1 + b.len
        · exact fb.in (by omega) (by omega) (by omega) q3
        · by_cases q4 : i = s + a.len + 1 + b.len
          · subst q4
            refine fit_one g1 g2' rfl _ _ ?_
            intro e he
            rw [List.mem_singleton.mp he]
            exact ⟨⟨by dsimp only; omega, by dsimp only; omega⟩, h3'⟩
          · exact fc.in (by omega) (by omega) (by omega) (by omega)
  | .loop a b c, s, h, l, hw, h1, h2, h3 => by
    simp only [lay, sts, sub_app, sub_one, List.length_append, List.length_singleton, lay_len, sts_len] at h1 h2
    obtain ⟨⟨⟨⟨a1, b1⟩, g1⟩, c1⟩, u1⟩ := h1
    obtain ⟨⟨⟨⟨a2, b2⟩, g2⟩, c2⟩, u2⟩ := h2
    simp only [Xp.len, ← Nat.add_assoc] at *
    have u2' := Option.some.inj u2
    have g2' := Option.some.inj g2
    have hb0 := sub_head b2
    have hc0 := sub_head c2
    have fa := fit_lay a s h l hw.1 a1 a2 hb0
    have fb := fit_lay b (s + a.len) (h + 1) l hw.2.1 b1 b2 g2'
    have fc := fit_lay c (s + a.len + b.len + 1) h (l + 1) hw.2.2 c1 c2 u2'
    have h3' : F (s + a.len + b.len + 1 + c.len + 1) = (h + 1, l) := by rw [← h3]; congr 1; omega
    intro i hi1 hi2
    by_cases q1 : i < s + a.len
    · exact fa.in (Nat.le_refl _) (by omega) hi1 q1
    · by_cases q2 : i < s + a.len + b.len
      · exact fb.in (by omega) (by omega) (by omega) q2
      · by_cases q3 : i = s + a.len + b.len
        · subst q3
          refine fit_one (es := [(s + a.len + b.len + 1, (h, l + 1)), (s + a.len + b.len + 1 + c.len + 1, (h + 1, l))]) g1 g2' (by simp only [behind]; exact if_pos (Nat.succ_lt_succ (Nat.succ_pos _))) _ _ ?_
          intro e he
          rcases List.mem_cons.mp he with rfl | he
          · exact ⟨⟨by dsimp only; omega, by dsimp only; omega⟩, hc0⟩
          · rw [List.mem_singleton.mp he]
            exact ⟨⟨by dsimp only; omega, by dsimp only; omega⟩, h3'⟩
        · by_cases q4 : i < s + a.len + b.len + 1 + c.len
          · exact fc.in (by omega) (by omega) (by omega) q4
          · obtain rfl : i = s + a.len + b.len + 1 + c.len := by omega
            refine fit_one (es := [(s + a.len + b.len + 1 + c.len + 1, (h + 1, l)), (s + a.len + b.len + 1, (h, l + 1))]) u1 u2' (by simp only [behind]; exact if_neg (by omega)) _ _ ?_
            intro e he
            rcases List.mem_cons.mp he with rfl | he
            · exact ⟨⟨by dsimp only; omega, by dsimp only; omega⟩, h3'⟩
            · rw [List.mem_singleton.mp he]
              exact ⟨⟨by dsimp only; omega, by dsimp only; omega⟩, hc0⟩
where
  sub_head {F : Nat → Sd} {e : Xp} {s h l : Nat} (h2 : Sub (oF F) s (sts e h l)) : F s = (h, l) := Option.some.inj (h2 0 _ (sts_head e h l))
theorem lay_ins {many : Nat} : ∀ (e : Xp) (s l : Nat), e.wf many l → ∀ ins ∈ lay e s, (∀ n, ins = .call n → n < many) ∧ ∀ v, ins = .push v → B v
  | .num v, s, l, hw, ins, hi => by
    rw [List.mem_singleton.mp hi]
    exact ⟨fun n h => (nomatch h), fun v h => by cases h; exact hw⟩
  | .need v, s, l, hw, ins, hi => by
    rw [List.mem_singleton.mp hi]
    exact ⟨fun n h => by cases h; exact hw, fun v h => (nomatch h)⟩
  | .soFar, s, l, hw, ins, hi => by
    rw [List.mem_singleton.mp hi]
    exact ⟨fun n h => (nomatch h), fun v h => (nomatch h)⟩
  | .turn, s, l, hw, ins, hi => by
    rw [List.mem_singleton.mp hi]
    exact ⟨fun n h => (nomatch h), fun v h => (nomatch h)⟩
  | .op w a b, s, l, hw, ins, hi => by
    simp only [lay, List.mem_append, List.mem_singleton] at hi
    rcases hi with (hi | hi) | hi
    · exact lay_ins a _ _ hw.1 _ hi
    · exact lay_ins b _ _ hw.2 _ hi
    · rw [hi]
      exact ⟨fun n h => (nomatch h), fun v h => (nomatch h)⟩
  | .ite a b c, s, l, hw, ins, hi => by
    simp only [lay, List.mem_append, List.mem_singleton] at hi
    rcases hi with (((hi | hi) | hi) | hi) | hi
    · exact lay_ins a _ _ hw.1 _ hi
    · rw [hi]
      exact ⟨fun n h => (nomatch h), fun v h => (nomatch h)⟩
    · exact lay_ins b _ _ hw.2.1 _ hi
    · rw [hi]
      exact ⟨fun n h => (nomatch h), fun v h => (nomatch h)⟩
    · exact lay_ins c _ _ hw.2.2 _ hi
  | .loop a b c, s, l, hw, ins, hi => by
    simp only [lay, List.mem_append, List.mem_singleton] at hi
    rcases hi with (((hi | hi) | hi) | hi) | hi
    · exact lay_ins a _ _ hw.1 _ hi
    · exact lay_ins b _ _ hw.2.1 _ hi
    · rw [hi]
      exact ⟨fun n h => (nomatch h), fun v h => (nomatch h)⟩
    · exact lay_ins c _ _ hw.2.2 _ hi
    · rw [hi]
      exact ⟨fun n h => (nomatch h), fun v h => (nomatch h)⟩
/-- a routine laid from an expression -/
theorem stand_lay {many N : Nat} (hm : many ≤ N) {e : Xp} (hw : e.wf many 0) : Stand N (lay e 0 ++ [.ret]) (fun i => ((sts e 0 0 ++ [(1, 0)])[i]?).getD (0, 0)) := by
  have hlen : (lay e 0 ++ [I.ret]).length = e.len + 1 := by simp [lay_len]
  have hF : ∀ i, i < e.len + 1 → (sts e 0 0 ++ [(1, 0)])[i]? = some (((sts e 0 0 ++ [(1, 0)])[i]?).getD (0, 0)) := by
    intro i hi
    rw [List.getElem?_eq_getElem (by simp [sts_len]; omega)]
    rfl
  have hlast : (sts e 0 0 ++ [(1, 0)])[e.len]? = some (1, 0) := by
    rw [List.getElem?_append_right (by rw [sts_len]; omega), sts_len, Nat.sub_self]
    rfl
  have hf := fit_lay (many := many) (ri := fun i => (lay e 0 ++ [I.ret])[i]?) (F := fun i => ((sts e 0 0 ++ [(1, 0)])[i]?).getD (0, 0)) e 0 0 0 hw
    (fun i x hx => by
      rw [Nat.zero_add]
      show (lay e 0 ++ [I.ret])[i]? = some x
      rw [List.getElem?_append_left (lt_of_get hx)]
      exact hx)
    (fun i x hx => by
      rw [Nat.zero_add]
      show some _ = _
      have hi : i < e.len := by have := lt_of_get hx; rw [sts_len] at this; exact this
      rw [← hF i (by omega), List.getElem?_append_left (by rw [sts_len]; exact hi)]
      exact hx)
    (by rw [Nat.zero_add, hlast]; rfl)
  refine ⟨?_, by omega, ?_, ?_, ?_⟩
  · rw [List.getElem?_append_left (by rw [sts_len]; exact len_pos e), sts_head]
    rfl
  · intro i ins hi
    have hil := lt_of_get hi
    rw [hlen] at hil
    by_cases c : i < e.len
    · obtain ⟨ins', es, q1, q2, q3⟩ := hf i (Nat.zero_le _) (by omega)
      replace q1 : (lay e 0 ++ [I.ret])[i]? = some ins' := q1
      rw [hi] at q1
      cases q1
      exact ⟨es, q2, fun e' he => ⟨by have := (q3 e' he).1.2; omega, (q3 e' he).2⟩⟩
    · obtain rfl : i = e.len := by omega
      rw [List.getElem?_append_right (by rw [lay_len]; omega), lay_len, Nat.sub_self] at hi
      cases hi
      refine ⟨[], ?_, fun e he => nomatch he⟩
      rw [hlast]
      rfl
  · intro i n hi
    have hm' := List.mem_of_getElem? hi
    rcases List.mem_append.mp hm' with h | h
    · exact Nat.lt_of_lt_of_le ((lay_ins e 0 0 hw _ h).1 n rfl) hm
    · cases List.mem_singleton.mp h
  · intro i v hi
    have hm' := List.mem_of_getElem? hi
    rcases List.mem_append.mp hm' with h | h
    · exact (lay_ins e 0 0 hw _ h).2 v rfl
    · cases List.mem_singleton.mp h
end PP

/-! k83, plain: laying, on the store. -/
namespace PP
open PySem L2 MM
local macro_rules
  | `(tactic| walk_at "m") => `(tactic| simp only [R.bind_ok, ofString_strOk, List.length_cons, List.length_nil, List.set_cons_zero, List.set_cons_succ, if_true, if_false, reduceIte, Bool.not_true, Bool.not_false, List.any_cons, List.any_nil, List.all_cons, List.all_nil, Bool.or_true, Bool.or_false, Bool.true_or, Bool.false_or, Bool.and_true, Bool.true_and, Bool.false_and, Bool.and_false, String.reduceEq, String.reduceBEq, decide_true, decide_false, Store.get_set, Store.get_push, Store.next_set, Store.next_push, fitsN, valD_put_same, List.lookup_cons, List.lookup_nil, List.mem_cons, List.not_mem_nil, or_false, putD, Option.isSome_some, Option.isSome_none, Nat.reduceSub, Int.cast_ofNat_Int, Nat.reduceLT, Nat.reduceAdd, Nat.reduceLeDiff, Nat.reduceEqDiff, Int.reduceNeg, List.replicate, Bool.false_eq_true, reduceCtorEq, beq_self_eq_true, ne_eq, not_true_eq_false, not_false_eq_true, List.append_nil, List.nil_append, List.cons_append, and_true, true_and, Int.reduceEq, Int.reduceBEq, Int.reduceLT, Int.reduceLE, q_k_drop, q_k_ret, q_k_ifs, q_k_asg2, q_k_asg, q_k_par2, q_k_par, q_k_keep, q_k_gsub2, q_k_gsub, q_k_gcons, q_k_op, q_k_and, q_k_or, q_k_not, q_k_andE2, q_k_andE, q_k_orE2, q_k_orE, q_k_notE2, q_k_notE, q_k_if, q_k_cons2, q_k_cons, q_k_tup, q_k_fits, q_k_new, q_k_meth3, q_k_meth2, q_k_meth, q_k_make2, q_k_make, q_k_bm, q_k_gfld, q_k_chain4, q_k_chain3, q_k_chain2, q_k_chain, q_k_sl3, q_k_sl2, q_k_sl, q_k_rng2, q_e_seq, q_e_seqK, q_e_seqKr, q_e_def, q_e_end, q_e_endr, q_e_drop, q_e_ret, q_e_ifs, q_e_asg, q_e_next, q_e_par, q_e_gn, q_e_gsub, q_e_gnil, q_e_gcons, q_e_gt, q_e_c, q_e_op, q_e_un, q_e_b, q_e_asB, q_e_and, q_e_or, q_e_not, q_e_andE, q_e_orE, q_e_notE, q_e_if, q_e_nil, q_e_cons, q_e_tup, q_e_fits, q_e_new, q_e_dnew, q_e_call, q_e_meth, q_e_make, q_e_bm, q_e_fld, q_e_gfld, q_e_chain, q_e_sl, q_e_no, q_e_some, q_e_asI, q_e_isB, q_e_yes, q_e_rng1, q_e_rng2, q_e_is, q_e_v0, q_e_v1, q_e_v2, q_e_v3, q_e_v4, q_e_v5, q_e_v6, q_e_v7, q_e_v8, q_e_v9, q_e_v10, q_e_mapc, q_e_mapn, q_e_appc, q_e_appn, q_e_rep0, q_e_rep1, q_e_rep2, q_e_rep3, q_e_rep4, q_e_rep5, q_e_rep6, q_e_rep7, q_e_rep8, q_e_rep9, q_ix_ref, q_ix_tup, q_ix_rl, q_ixO_l, q_ixO_di, q_ixO_ds, q_valR_some, q_atR_0, q_atR_1, q_atR_2, q_atR_3, q_atR_4, q_atR_last, q_atR_last1, q_atR_last3, q_atR_last4, q_atR_last2, q_set_ref, q_putR_0, q_putR_1, q_putR_2, q_putR_3, q_setO_l, q_setLR_some, q_setO_di, q_setO_ds, q_getF_ref, q_getFO_i, q_setF_ref, q_setFO_i, q_asIns_ref, q_asInsO_i, q_isLst_ref, q_isLstO_l, q_app_ref, q_appO_l, q_lts, q_pop_ref, q_popO_l, q_popO_1, q_len_ref, q_lenO_l, q_lenO_d, q_len_tup, q_len_rl, q_in_ref, q_inO_di, q_inO_ds, q_inO_l, q_in_tup, q_tup_ref, q_tupO_l, q_add_ref, q_catO_l, q_add_int, q_add_tup, q_sub_int, q_lt_int, q_le_int, q_gt_int, q_ge_int, q_neg_int, q_mul_int, q_mod_int, q_fdiv_int, q_abs_int, q_int_int, q_int_bl, q_max_int, q_min_int, q_divmod_int, q_is_non, q_isnot_non, q_is_bl, q_isnot_bl, q_str_inj, q_str_beq, q_eq_str, q_ne_str, q_eq_int, q_ne_int, q_eq_ref, q_ne_ref, q_eqO_i, q_eqO_n, q_emp, q_emp0, q_nx1, q_nx2, q_nx3, q_nx4, q_nx5, q_nx6, q_nx7, q_nx8, q_nx9, q_nxa, q_nxb, q_nxc, q_nxd, q_ne_tup2, q_mul_ref, q_mulO_1, q_ext_ref, q_extO_l, q_flat_int, q_flat_str, q_flat_bl, q_flat_non, q_eqF_int, q_eqF_str, q_isB_int, q_isB_str, q_isB_bl, q_isB_tup, q_isB_rl, q_isB_non, q_isB_ref, q_isBO_l, q_isBO_d, q_isNon_ref, q_isNon_int, q_isNon_str, q_isNon_tup, q_isNon_bl, q_isNon_non, *])
/-- nothing old has changed -/
def KeepA (S T : Store) : Prop := S.next ≤ T.next ∧ ∀ p, p < S.next → T.get p = S.get p
theorem KeepA.refl (S : Store) : KeepA S S := ⟨Nat.le_refl _, fun _ _ => rfl⟩
theorem KeepA.trans {S T U : Store} (h : KeepA S T) (k : KeepA T U) : KeepA S U := ⟨Nat.le_trans h.1 k.1, fun p hp => by rw [k.2 p (Nat.lt_of_lt_of_le hp h.1), h.2 p hp]⟩
theorem KeepA.push (S : Store) (o : O) : KeepA S (S.push o) := ⟨Nat.le_succ _, fun p hp => by rw [Store.get_push, if_neg (Nat.ne_of_lt hp)]⟩
theorem KeepA.pushed {S T : Store} (h : KeepA S T) (o : O) : KeepA S (T.push o) := h.trans (KeepA.push T o)
theorem nes {q n : Nat} (h : q < n) : (q = n) = False ∧ (∀ a, (q = n + a) = False) ∧ (∀ a b, (q = n + a + b) = False) ∧ (∀ a b c, (q = n + a + b + c) = False) ∧ (∀ a b c d, (q = n + a + b + c + d) = False) ∧ (∀ a b c d e, (q = n + a + b + c + d + e) = False) :=
  ⟨eq_false (by omega), fun a => eq_false (by omega), fun a b => eq_false (by omega), fun a b c => eq_false (by omega), fun a b c d => eq_false (by omega), fun a b c d e => eq_false (by omega)⟩
def LaidQ (e : Xp) (spot : Nat) (S : Store) (d : D) (T : Store) : Prop := ∃ q, d = .ref q ∧ T.get q = some (.lst ((lay e spot).map I.enc)) ∧ S.next ≤ q ∧ q < T.next ∧ KeepA S T
theorem laid_ok : ∀ (fuel : Nat) (e : Xp) (spot : Nat), e.dep < fuel → e.len ≤ 100000 → ∀ S, OkD (M_L_law_laid fuel [e.enc, .int (spot : Nat)] S) (LaidQ e spot S)
  | 0, e, spot, h, hl, S => absurd h (Nat.not_lt_zero _)
  | n + 1, .num v, spot, h, hl, S => by
    generalize hQ : LaidQ (.num v) spot S = Q
    simp only [M_L_law_laid, Xp.enc]
    clear h hl
    walk_at "m"
    subst hQ
    exact OkD.ok (Q := LaidQ (.num v) spot S) ⟨S.next, rfl, by rw [Store.get_push, if_pos rfl]; rfl, Nat.le_refl _, Nat.lt_succ_self _, KeepA.push _ _⟩
  | n + 1, .need v, spot, h, hl, S => by
    generalize hQ : LaidQ (.need v) spot S = Q
    simp only [M_L_law_laid, Xp.enc]
    clear h hl
    walk_at "m"
    subst hQ
    exact OkD.ok (Q := LaidQ (.need v) spot S) ⟨S.next, rfl, by rw [Store.get_push, if_pos rfl]; rfl, Nat.le_refl _, Nat.lt_succ_self _, KeepA.push _ _⟩
  | n + 1, .soFar, spot, h, hl, S => by
    generalize hQ : LaidQ (.soFar) spot S = Q
    simp only [M_L_law_laid, Xp.enc]
    clear h hl
    walk_at "m"
    subst hQ
    exact OkD.ok (Q := LaidQ (.soFar) spot S) ⟨S.next, rfl, by rw [Store.get_push, if_pos rfl]; rfl, Nat.le_refl _, Nat.lt_succ_self _, KeepA.push _ _⟩
  | n + 1, .turn, spot, h, hl, S => by
    generalize hQ : LaidQ (.turn) spot S = Q
    simp only [M_L_law_laid, Xp.enc]
    clear h hl
    walk_at "m"
    subst hQ
    exact OkD.ok (Q := LaidQ (.turn) spot S) ⟨S.next, rfl, by rw [Store.get_push, if_pos rfl]; rfl, Nat.le_refl _, Nat.lt_succ_self _, KeepA.push _ _⟩
  | n + 1, .op w a b, spot, h, hl, S => by
    simp only [Xp.dep] at h
    simp only [Xp.len] at hl
    obtain ⟨_, T1, e1, q1, rfl, g1, f1, m1, k1⟩ := (laid_ok n a spot (by omega) (by omega) S).ex
    obtain ⟨_, T2, e2, q2, rfl, g2, f2, m2, k2⟩ := (laid_ok n b (spot + a.len) (by omega) (by omega) T1).ex
    have g1' := (k2.2 q1 m1).trans g1
    have n1 := nes (Nat.lt_of_lt_of_le m1 k2.1)
    have n2 := nes m2
    have c1 : ((spot + a.len : Nat) : Int) = (spot : Int) + (a.len : Int) := by omega
    rw [c1] at e2
    have hl1 : ((lay a spot).map I.enc).length = a.len := by rw [List.length_map, lay_len]
    have hl2 : ((lay b (spot + a.len)).map I.enc).length = b.len := by rw [List.length_map, lay_len]
    have b1 : a.len + b.len ≤ 16000000 := by omega
    have b2 : ((lay a spot).map I.enc ++ (lay b (spot + a.len)).map I.enc).length + 1 ≤ 16000000 := by rw [List.length_append, hl1, hl2]; omega
    have hfin : (lay (.op w a b) spot).map I.enc = (lay a spot).map I.enc ++ (lay b (spot + a.len)).map I.enc ++ [.tup [.str (Str.ofString w.w)]] := by simp only [lay, List.map_append, List.map_cons, List.map_nil, I.enc]
    have k3 := k1.trans k2
    clear h hl c1 k1 k2 f1 f2 m1 m2
    generalize hQ : LaidQ (.op w a b) spot S = Q
    simp only [M_L_law_laid, Xp.enc]
    have fin : ∀ T : Store, KeepA S T → OkD (.ok (.ref T.next) (T.push (.lst ((lay a spot).map I.enc ++ (lay b (spot + a.len)).map I.enc ++ [.tup [.str (Str.ofString w.w)]])))) Q := by
      intro T hT
      subst hQ
      exact OkD.ok (Q := LaidQ (.op w a b) spot S) ⟨T.next, rfl, by rw [Store.get_push, if_pos rfl, hfin], hT.1, Nat.lt_succ_self _, hT.trans (KeepA.push _ _)⟩
    clear hQ hfin
    cases w <;> simp only [Op.w] at fin ⊢ <;> walk_at "m" <;> exact fin _ ((k3.pushed _).pushed _)
  | n + 1, .ite a b c, spot, h, hl, S => by
    simp only [Xp.dep] at h
    simp only [Xp.len] at hl
    obtain ⟨_, T1, e1, q1, rfl, g1, f1, m1, k1⟩ := (laid_ok n a spot (by omega) (by omega) S).ex
    obtain ⟨_, T2, e2, q2, rfl, g2, f2, m2, k2⟩ := (laid_ok n b (spot + a.len + 1) (by omega) (by omega) T1).ex
    obtain ⟨_, T3, e3, q3, rfl, g3, f3, m3, k3⟩ := (laid_ok n c (spot + a.len + b.len + 2) (by omega) (by omega) T2).ex
    have m1' := Nat.lt_of_lt_of_le m1 k2.1
    have g1' := (k2.2 q1 m1).trans g1
    have g1'' := (k3.2 q1 m1').trans g1'
    have g2' := (k3.2 q2 m2).trans g2
    have n1 := nes (Nat.lt_of_lt_of_le m1' k3.1)
    have n2 := nes (Nat.lt_of_lt_of_le m2 k3.1)
    have n3 := nes m3
    have c1 : ((spot + a.len + 1 : Nat) : Int) = (spot : Int) + (a.len : Int) + 1 := by omega
    have c2 : ((spot + a.len + b.len + 2 : Nat) : Int) = (spot : Int) + (a.len : Int) + (b.len : Int) + 2 := by omega
    have c3 : ((spot + a.len + b.len + 2 + c.len : Nat) : Int) = (spot : Int) + (a.len : Int) + (b.len : Int) + 2 + (c.len : Int) := by omega
    rw [c1] at e2
    rw [c2] at e3
    have hl1 : ((lay a spot).map I.enc).length = a.len := by rw [List.length_map, lay_len]
    have hl2 : ((lay b (spot + a.len + 1)).map I.enc).length = b.len := by rw [List.length_map, lay_len]
    have hl3 : ((lay c (spot + a.len + b.len + 2)).map I.enc).length = c.len := by rw [List.length_map, lay_len]
    have hfin : (lay (.ite a b c) spot).map I.enc = (lay a spot).map I.enc ++ [.tup [.str (Str.ofString "unless"), .int ((spot : Int) + (a.len : Int) + (b.len : Int) + 2)]] ++ (lay b (spot + a.len + 1)).map I.enc ++ [.tup [.str (Str.ofString "go"), .int ((spot : Int) + (a.len : Int) + (b.len : Int) + 2 + (c.len : Int))]] ++ (lay c (spot + a.len + b.len + 2)).map I.enc := by
      simp only [lay, List.map_append, List.map_cons, List.map_nil, I.enc, c2, c3]
    have b1 : a.len + 1 ≤ 16000000 := by omega
    have b2 : ∀ x, ((lay a spot).map I.enc ++ [x]).length + b.len ≤ 16000000 := by intro x; rw [List.length_append, hl1, List.length_singleton]; omega
    have b3 : ∀ x, ((lay a spot).map I.enc ++ [x] ++ (lay b (spot + a.len + 1)).map I.enc).length + 1 ≤ 16000000 := by intro x; rw [List.length_append, List.length_append, hl1, hl2, List.length_singleton]; omega
    have b4 : ∀ x y, ((lay a spot).map I.enc ++ [x] ++ (lay b (spot + a.len + 1)).map I.enc ++ [y]).length + c.len ≤ 16000000 := by intro x y; rw [List.length_append, List.length_append, List.length_append, hl1, hl2, List.length_singleton, List.length_singleton]; omega
    have k4 := (k1.trans k2).trans k3
    clear h hl c1 c2 c3 k1 k2 k3 f1 f2 f3 m1 m2 m3 m1'
    generalize hQ : LaidQ (.ite a b c) spot S = Q
    simp only [M_L_law_laid, Xp.enc]
    have fin : ∀ T : Store, KeepA S T → ∀ k, k = T.next → OkD (.ok (.ref k) (T.push (.lst ((lay a spot).map I.enc ++ [.tup [.str (Str.ofString "unless"), .int ((spot : Int) + (a.len : Int) + (b.len : Int) + 2)]] ++ (lay b (spot + a.len + 1)).map I.enc ++ [.tup [.str (Str.ofString "go"), .int ((spot : Int) + (a.len : Int) + (b.len : Int) + 2 + (c.len : Int))]] ++ (lay c (spot + a.len + b.len + 2)).map I.enc)))) Q := by
      rintro T hT k rfl
      subst hQ
      exact OkD.ok (Q := LaidQ (.ite a b c) spot S) ⟨T.next, rfl, by rw [Store.get_push, if_pos rfl, hfin], hT.1, Nat.lt_succ_self _, hT.trans (KeepA.push _ _)⟩
    clear hQ hfin
    walk_at "m"
    exact fin _ (((((k4.pushed _).pushed _).pushed _).pushed _).pushed _) _ rfl
  | n + 1, .loop a b c, spot, h, hl, S => by
    simp only [Xp.dep] at h
    simp only [Xp.len] at hl
    obtain ⟨_, T1, e1, q1, rfl, g1, f1, m1, k1⟩ := (laid_ok n a spot (by omega) (by omega) S).ex
    obtain ⟨_, T2, e2, q2, rfl, g2, f2, m2, k2⟩ := (laid_ok n b (spot + a.len) (by omega) (by omega) T1).ex
    obtain ⟨_, T3, e3, q3, rfl, g3, f3, m3, k3⟩ := (laid_ok n c (spot + a.len + b.len + 1) (by omega) (by omega) T2).ex
    have m1' := Nat.lt_of_lt_of_le m1 k2.1
    have g1' := (k2.2 q1 m1).trans g1
    have g1'' := (k3.2 q1 m1').trans g1'
    have g2' := (k3.2 q2 m2).trans g2
    have n1 := nes (Nat.lt_of_lt_of_le m1' k3.1)
    have n2 := nes (Nat.lt_of_lt_of_le m2 k3.1)
    have n3 := nes m3
    have c1 : ((spot + a.len : Nat) : Int) = (spot : Int) + (a.len : Int) := by omega
    have c2 : ((spot + a.len + b.len + 1 : Nat) : Int) = (spot : Int) + (a.len : Int) + (b.len : Int) + 1 := by omega
    have c3 : ((spot + a.len + b.len + 1 + c.len + 1 : Nat) : Int) = (spot : Int) + (a.len : Int) + (b.len : Int) + 1 + (c.len : Int) + 1 := by omega
    rw [c1] at e2
    rw [c2] at e3
    have hl1 : ((lay a spot).map I.enc).length = a.len := by rw [List.length_map, lay_len]
    have hl2 : ((lay b (spot + a.len)).map I.enc).length = b.len := by rw [List.length_map, lay_len]
    have hl3 : ((lay c (spot + a.len + b.len + 1)).map I.enc).length = c.len := by rw [List.length_map, lay_len]
    have hfin : (lay (.loop a b c) spot).map I.enc = (lay a spot).map I.enc ++ (lay b (spot + a.len)).map I.enc ++ [.tup [.str (Str.ofString "open"), .int ((spot : Int) + (a.len : Int) + (b.len : Int) + 1 + (c.len : Int) + 1)]] ++ (lay c (spot + a.len + b.len + 1)).map I.enc ++ [.tup [.str (Str.ofString "close"), .int ((spot : Int) + (a.len : Int) + (b.len : Int) + 1)]] := by
      simp only [lay, List.map_append, List.map_cons, List.map_nil, I.enc, c2, c3]
    have b1 : a.len + b.len ≤ 16000000 := by omega
    have b2 : ((lay a spot).map I.enc ++ (lay b (spot + a.len)).map I.enc).length + 1 ≤ 16000000 := by rw [List.length_append, hl1, hl2]; omega
    have b3 : ∀ x, ((lay a spot).map I.enc ++ (lay b (spot + a.len)).map I.enc ++ [x]).length + c.len ≤ 16000000 := by intro x; rw [List.length_append, List.length_append, hl1, hl2, List.length_singleton]; omega
    have b4 : ∀ x, ((lay a spot).map I.enc ++ (lay b (spot + a.len)).map I.enc ++ [x] ++ (lay c (spot + a.len + b.len + 1)).map I.enc).length + 1 ≤ 16000000 := by intro x; rw [List.length_append, List.length_append, List.length_append, hl1, hl2, hl3, List.length_singleton]; omega
    have k4 := (k1.trans k2).trans k3
    clear h hl c1 c2 c3 k1 k2 k3 f1 f2 f3 m1 m2 m3 m1'
    generalize hQ : LaidQ (.loop a b c) spot S = Q
    simp only [M_L_law_laid, Xp.enc]
    have fin : ∀ T : Store, KeepA S T → ∀ k, k = T.next → OkD (.ok (.ref k) (T.push (.lst ((lay a spot).map I.enc ++ (lay b (spot + a.len)).map I.enc ++ [.tup [.str (Str.ofString "open"), .int ((spot : Int) + (a.len : Int) + (b.len : Int) + 1 + (c.len : Int) + 1)]] ++ (lay c (spot + a.len + b.len + 1)).map I.enc ++ [.tup [.str (Str.ofString "close"), .int ((spot : Int) + (a.len : Int) + (b.len : Int) + 1)]])))) Q := by
      rintro T hT k rfl
      subst hQ
      exact OkD.ok (Q := LaidQ (.loop a b c) spot S) ⟨T.next, rfl, by rw [Store.get_push, if_pos rfl, hfin], hT.1, Nat.lt_succ_self _, hT.trans (KeepA.push _ _)⟩
    clear hQ hfin
    walk_at "m"
    exact fin _ (((((k4.pushed _).pushed _).pushed _).pushed _).pushed _) _ rfl
end PP

/-! k83, plain: what is drawn. -/
namespace PP
open PySem L2 MM
local macro_rules
  | `(tactic| walk_at "m") => `(tactic| simp only [R.bind_ok, ofString_strOk, List.length_cons, List.length_nil, List.set_cons_zero, List.set_cons_succ, if_true, if_false, reduceIte, Bool.not_true, Bool.not_false, List.any_cons, List.any_nil, List.all_cons, List.all_nil, Bool.or_true, Bool.or_false, Bool.true_or, Bool.false_or, Bool.and_true, Bool.true_and, Bool.false_and, Bool.and_false, String.reduceEq, String.reduceBEq, decide_true, decide_false, Store.get_set, Store.get_push, Store.next_set, Store.next_push, fitsN, valD_put_same, List.lookup_cons, List.lookup_nil, List.mem_cons, List.not_mem_nil, or_false, putD, Option.isSome_some, Option.isSome_none, Nat.reduceSub, Int.cast_ofNat_Int, Nat.reduceLT, Nat.reduceAdd, Nat.reduceLeDiff, Nat.reduceEqDiff, Int.reduceNeg, List.replicate, Bool.false_eq_true, reduceCtorEq, beq_self_eq_true, ne_eq, not_true_eq_false, not_false_eq_true, List.append_nil, List.nil_append, List.cons_append, and_true, true_and, Int.reduceEq, Int.reduceBEq, Int.reduceLT, Int.reduceLE, q_k_drop, q_k_ret, q_k_ifs, q_k_asg2, q_k_asg, q_k_par2, q_k_par, q_k_keep, q_k_gsub2, q_k_gsub, q_k_gcons, q_k_op, q_k_and, q_k_or, q_k_not, q_k_andE2, q_k_andE, q_k_orE2, q_k_orE, q_k_notE2, q_k_notE, q_k_if, q_k_cons2, q_k_cons, q_k_tup, q_k_fits, q_k_new, q_k_meth3, q_k_meth2, q_k_meth, q_k_make2, q_k_make, q_k_bm, q_k_gfld, q_k_chain4, q_k_chain3, q_k_chain2, q_k_chain, q_k_sl3, q_k_sl2, q_k_sl, q_k_rng2, q_e_seq, q_e_seqK, q_e_seqKr, q_e_def, q_e_end, q_e_endr, q_e_drop, q_e_ret, q_e_ifs, q_e_asg, q_e_next, q_e_par, q_e_gn, q_e_gsub, q_e_gnil, q_e_gcons, q_e_gt, q_e_c, q_e_op, q_e_un, q_e_b, q_e_asB, q_e_and, q_e_or, q_e_not, q_e_andE, q_e_orE, q_e_notE, q_e_if, q_e_nil, q_e_cons, q_e_tup, q_e_fits, q_e_new, q_e_dnew, q_e_call, q_e_meth, q_e_make, q_e_bm, q_e_fld, q_e_gfld, q_e_chain, q_e_sl, q_e_no, q_e_some, q_e_asI, q_e_isB, q_e_yes, q_e_rng1, q_e_rng2, q_e_is, q_e_v0, q_e_v1, q_e_v2, q_e_v3, q_e_v4, q_e_v5, q_e_v6, q_e_v7, q_e_v8, q_e_v9, q_e_v10, q_e_mapc, q_e_mapn, q_e_appc, q_e_appn, q_e_rep0, q_e_rep1, q_e_rep2, q_e_rep3, q_e_rep4, q_e_rep5, q_e_rep6, q_e_rep7, q_e_rep8, q_e_rep9, q_ix_ref, q_ix_tup, q_ix_rl, q_ixO_l, q_ixO_di, q_ixO_ds, q_valR_some, q_atR_0, q_atR_1, q_atR_2, q_atR_3, q_atR_4, q_atR_last, q_atR_last1, q_atR_last3, q_atR_last4, q_atR_last2, q_set_ref, q_putR_0, q_putR_1, q_putR_2, q_putR_3, q_setO_l, q_setLR_some, q_setO_di, q_setO_ds, q_getF_ref, q_getFO_i, q_setF_ref, q_setFO_i, q_asIns_ref, q_asInsO_i, q_isLst_ref, q_isLstO_l, q_app_ref, q_appO_l, q_lts, q_pop_ref, q_popO_l, q_popO_1, q_len_ref, q_lenO_l, q_lenO_d, q_len_tup, q_len_rl, q_in_ref, q_inO_di, q_inO_ds, q_inO_l, q_in_tup, q_tup_ref, q_tupO_l, q_add_ref, q_catO_l, q_add_int, q_add_tup, q_sub_int, q_lt_int, q_le_int, q_gt_int, q_ge_int, q_neg_int, q_mul_int, q_mod_int, q_fdiv_int, q_abs_int, q_int_int, q_int_bl, q_max_int, q_min_int, q_divmod_int, q_is_non, q_isnot_non, q_is_bl, q_isnot_bl, q_str_inj, q_str_beq, q_eq_str, q_ne_str, q_eq_int, q_ne_int, q_eq_ref, q_ne_ref, q_eqO_i, q_eqO_n, q_emp, q_emp0, q_nx1, q_nx2, q_nx3, q_nx4, q_nx5, q_nx6, q_nx7, q_nx8, q_nx9, q_nxa, q_nxb, q_nxc, q_nxd, q_ne_tup2, q_mul_ref, q_mulO_1, q_ext_ref, q_extO_l, q_flat_int, q_flat_str, q_flat_bl, q_flat_non, q_eqF_int, q_eqF_str, q_isB_int, q_isB_str, q_isB_bl, q_isB_tup, q_isB_rl, q_isB_non, q_isB_ref, q_isBO_l, q_isBO_d, q_isNon_ref, q_isNon_int, q_isNon_str, q_isNon_tup, q_isNon_bl, q_isNon_non, *])
def PotAt (S : Store) (p : Nat) : Prop := ∃ a b : Int, S.get p = some (.lst [.int a, .int b]) ∧ 0 ≤ b ∧ b ≤ 2147483587 ∧ p < S.next
/-- nothing old but p has changed -/
def Keep (p : Nat) (S T : Store) : Prop := S.next ≤ T.next ∧ ∀ q, q < S.next → q ≠ p → T.get q = S.get q
theorem Keep.refl (p : Nat) (S : Store) : Keep p S S := ⟨Nat.le_refl _, fun _ _ _ => rfl⟩
theorem Keep.trans {p : Nat} {S T U : Store} (h : Keep p S T) (k : Keep p T U) : Keep p S U := ⟨Nat.le_trans h.1 k.1, fun q hq hn => by rw [k.2 q (Nat.lt_of_lt_of_le hq h.1) hn, h.2 q hq hn]⟩
theorem Keep.push (p : Nat) (S : Store) (o : O) : Keep p S (S.push o) := ⟨Nat.le_succ _, fun q hq _ => by rw [Store.get_push, if_neg (Nat.ne_of_lt hq)]⟩
theorem Keep.set (p : Nat) (S : Store) (o : O) : Keep p S (S.set p o) := ⟨Nat.le_refl _, fun q hq hn => by rw [Store.get_set, if_neg hn]⟩
theorem PotAt.push {S : Store} {p : Nat} (h : PotAt S p) (o : O) : PotAt (S.push o) p := by
  obtain ⟨a, b, h1, h2, h3, h4⟩ := h
  exact ⟨a, b, by rw [Store.get_push, if_neg (Nat.ne_of_lt h4)]; exact h1, h2, h3, Nat.lt_succ_of_lt h4⟩
theorem log2_lt {v : Int} (h0 : 0 ≤ v) (h1 : v ≤ 10000000000) : v.natAbs.log2 < 100 := log2_B (by unfold B; omega)
def DrawQ (p n : Nat) (S : Store) (d : D) (T : Store) : Prop := ∃ k, d = .int (k : Nat) ∧ k < n ∧ PotAt T p ∧ Keep p S T
theorem draw_ok {S : Store} {p n : Nat} (hp : PotAt S p) (h0 : 0 < n) (h1 : n ≤ 1000) : OkD (m_L_law_draw [.ref p, .int (n : Nat)] S) (DrawQ p n S) := by
  obtain ⟨a, b, g, hb0, hb1, hlt⟩ := hp
  have hn : (n : Int) ≠ 0 := by omega
  have hn2 : ((n : Int) = 0) = False := eq_false hn
  have hd : (0 : Int) < (n : Int) ∧ ((n : Int)).natAbs < 1073741824 := by omega
  have hd1 := eq_true hd.1
  have hd2 := eq_true hd.2
  unfold m_L_law_draw b_L_law_draw
  by_cases c : 0 < a
  · have c' := decide_eq_true c
    have r1 := Int.emod_nonneg a hn
    have r2 := Int.emod_lt_of_pos a hd.1
    have fin : OkD (.ok (.int (a % (n : Int))) (S.set p (.lst [.int (a / (n : Int)), .int b]))) (DrawQ p n S) := by
      refine OkD.ok (Q := DrawQ p n S) ⟨(a % (n : Int)).toNat, by congr 1; omega, by omega, ⟨a / (n : Int), b, by rw [Store.get_set, if_pos rfl], hb0, hb1, hlt⟩, Keep.set _ _ _⟩
    generalize DrawQ p n S = Q at fin ⊢
    clear hb0 hb1 hlt r1 r2 h0 h1 hn hd
    walk_at "m"
    all_goals exact fin
  · have c' := decide_eq_false c
    have l0 := log2_lt hb0 (by omega)
    have l1 : (40692 : Int).natAbs.log2 < 100 := by decide
    have m1 : b.natAbs.log2 + (40692 : Int).natAbs.log2 < 1000000 := by omega
    have x0 : 0 ≤ (b * 40692 + 7001).fmod 2147483563 := by rw [Int.fmod_eq_emod_of_nonneg _ (by omega)]; omega
    have x1 : (b * 40692 + 7001).fmod 2147483563 ≤ 2147483587 := by rw [Int.fmod_eq_emod_of_nonneg _ (by omega)]; omega
    have l2 := log2_lt x0 (by omega)
    have m2 : ((b * 40692 + 7001).fmod 2147483563).natAbs.log2 + ((b * 40692 + 7001).fmod 2147483563).natAbs.log2 < 1000000 := by omega
    have m3 : (19 : Int).natAbs.log2 < 9000 := by decide
    have r1 : 0 ≤ ((((b * 40692 + 7001).fmod 2147483563 * (b * 40692 + 7001).fmod 2147483563).fmod 2147483629).fdiv 19).fmod (n : Int) := by rw [Int.fmod_eq_emod_of_nonneg _ (by omega)]; exact Int.emod_nonneg _ hn
    have r2 : ((((b * 40692 + 7001).fmod 2147483563 * (b * 40692 + 7001).fmod 2147483563).fmod 2147483629).fdiv 19).fmod (n : Int) < n := by rw [Int.fmod_eq_emod_of_nonneg _ (by omega)]; exact Int.emod_lt_of_pos _ hd.1
    have fin : OkD (.ok (.int (((((b * 40692 + 7001).fmod 2147483563 * (b * 40692 + 7001).fmod 2147483563).fmod 2147483629).fdiv 19).fmod (n : Int))) (S.set p (.lst [.int a, .int ((b * 40692 + 7001).fmod 2147483563)]))) (DrawQ p n S) := by
      refine OkD.ok (Q := DrawQ p n S) ⟨_, congrArg D.int (Int.toNat_of_nonneg r1).symm, by omega, ⟨a, _, by rw [Store.get_set, if_pos rfl], x0, x1, hlt⟩, Keep.set _ _ _⟩
    generalize DrawQ p n S = Q at fin ⊢
    clear hb0 hb1 hlt r1 r2 h0 h1 hn hd l0 l1 l2 x0 x1
    walk_at "m"
    all_goals exact fin
theorem PotAt.ne {S : Store} {p q : Nat} {o : O} (h : PotAt S p) (hq : S.get q = some o) (hn : ∀ a b : Int, o ≠ .lst [.int a, .int b]) : q ≠ p := by
  rintro rfl
  obtain ⟨a, b, g, _⟩ := h
  rw [hq] at g
  exact hn a b (Option.some.inj g)
def PickQ (p : Nat) (ds : List D) (S : Store) (d : D) (T : Store) : Prop := d ∈ ds ∧ PotAt T p ∧ Keep p S T
theorem pick_ok {S : Store} {p q : Nat} {ds : List D} (hp : PotAt S p) (hq : S.get q = some (.lst ds)) (hn : q ≠ p) (hl : q < S.next) (h0 : 0 < ds.length) (h1 : ds.length ≤ 1000) : OkD (m_L_law_pick [.ref p, .ref q] S) (PickQ p ds S) := by
  obtain ⟨_, T, e1, k, rfl, hk, hpT, hT⟩ := (draw_ok (n := ds.length) hp h0 h1).ex
  have g2 := (hT.2 q hl hn).trans hq
  have e2 : atR ds (k : Nat) T = .ok ds[k] T := q_atR_k (List.getElem?_eq_getElem hk)
  have fin : OkD (.ok ds[k] T) (PickQ p ds S) := OkD.ok (Q := PickQ p ds S) ⟨List.getElem_mem hk, hpT, hT⟩
  generalize PickQ p ds S = Q at fin ⊢
  unfold m_L_law_pick b_L_law_pick
  clear hpT hT hp h0 h1 hl hn
  walk_at "m"
  all_goals exact fin
/-- pick from a list just made -/
theorem pick_new {S : Store} {p : Nat} {ds : List D} (hp : PotAt S p) (h0 : 0 < ds.length) (h1 : ds.length ≤ 1000) : OkD (m_L_law_pick [.ref p, .ref S.next] (S.push (.lst ds))) (PickQ p ds S) := by
  have hlt : p < S.next := by obtain ⟨_, _, _, _, _, h⟩ := hp; exact h
  obtain ⟨d, T, e, h1, h2, h3⟩ := (pick_ok (hp.push (.lst ds)) (q := S.next) (by rw [Store.get_push, if_pos rfl]) (by omega) (Nat.lt_succ_self _) h0 h1).ex
  rw [e]
  exact OkD.ok (Q := PickQ p ds S) ⟨h1, h2, (Keep.push p S _).trans h3⟩
def LeafQ (p m l : Nat) (S : Store) (d : D) (T : Store) : Prop := ∃ e : Xp, d = e.enc ∧ e.wf m l ∧ e.len = 1 ∧ e.dep = 0 ∧ PotAt T p ∧ Keep p S T
theorem leaf_ok {S : Store} {p m l : Nat} (hp : PotAt S p) (hm : m ≤ 1000) : OkD (m_L_law_leaf [.ref p, .int (l : Nat), .int (m : Nat)] S) (LeafQ p m l S) := by
  obtain ⟨_, T, e1, k, rfl, hk, hpT, hT⟩ := (draw_ok (n := 8) hp (by omega) (by omega)).ex
  replace e1 : m_L_law_draw [.ref p, .int 8] S = .ok (.int (k : Nat)) T := e1
  by_cases c1 : k < 2 ∧ 0 < m
  · obtain ⟨_, U, e2, j, rfl, hj, hpU, hU⟩ := (draw_ok (n := m) hpT c1.2 hm).ex
    have d1 : decide (((k : Nat) : Int) < 2) = true := decide_eq_true (by omega)
    have d2 : decide ((0 : Int) < ((m : Nat) : Int)) = true := decide_eq_true (by omega)
    have fin : OkD (.ok (.tup [.str (Str.ofString "need"), .int (j : Nat)]) U) (LeafQ p m l S) := OkD.ok (Q := LeafQ p m l S) ⟨.need j, rfl, hj, rfl, rfl, hpU, hT.trans hU⟩
    generalize LeafQ p m l S = Q at fin ⊢
    unfold m_L_law_leaf b_L_law_leaf
    clear hpT hT hp hpU hU hk hj c1 hm
    walk_at "m"
    all_goals exact fin
  · have d1 : (decide (((k : Nat) : Int) < 2) = false) ∨ (decide (((k : Nat) : Int) < 2) = true ∧ decide ((0 : Int) < ((m : Nat) : Int)) = false) := by
      by_cases z : k < 2
      · exact .inr ⟨decide_eq_true (by omega), decide_eq_false (by omega)⟩
      · exact .inl (decide_eq_false (by omega))
    by_cases c2 : k < 5 ∧ 0 < l
    · obtain ⟨d, U, e2, hd, hpU, hU⟩ := (pick_new (ds := [.tup [.str (Str.ofString "so far")], .tup [.str (Str.ofString "turn")], .tup [.str (Str.ofString "so far")]]) hpT (by simp) (by simp)).ex
      have d3 : decide (((k : Nat) : Int) < 5) = true := decide_eq_true (by omega)
      have d4 : decide ((0 : Int) < ((l : Nat) : Int)) = true := decide_eq_true (by omega)
      have fin : OkD (.ok d U) (LeafQ p m l S) := by
        simp only [List.mem_cons, List.not_mem_nil, or_false] at hd
        rcases hd with rfl | rfl | rfl
        · exact OkD.ok (Q := LeafQ p m l S) ⟨.soFar, rfl, c2.2, rfl, rfl, hpU, hT.trans hU⟩
        · exact OkD.ok (Q := LeafQ p m l S) ⟨.turn, rfl, c2.2, rfl, rfl, hpU, hT.trans hU⟩
        · exact OkD.ok (Q := LeafQ p m l S) ⟨.soFar, rfl, c2.2, rfl, rfl, hpU, hT.trans hU⟩
      generalize LeafQ p m l S = Q at fin ⊢
      unfold m_L_law_leaf b_L_law_leaf
      clear hpT hT hp hpU hU hk hd c1 c2 hm
      rcases d1 with d1 | ⟨d1, d2⟩
      · walk_at "m"
        all_goals exact fin
      · walk_at "m"
        all_goals exact fin
    · obtain ⟨d, U, e2, hd, hpU, hU⟩ := (pick_new (ds := [.int 0, .int 1, .int 2, .int 3, .int (-1), .int (-2), .int 5, .int 1000000000000, .int 0, .int 7]) hpT (by simp) (by simp)).ex
      have d3 : (decide (((k : Nat) : Int) < 5) = false) ∨ (decide (((k : Nat) : Int) < 5) = true ∧ decide ((0 : Int) < ((l : Nat) : Int)) = false) := by
        by_cases z : k < 5
        · exact .inr ⟨decide_eq_true (by omega), decide_eq_false (by omega)⟩
        · exact .inl (decide_eq_false (by omega))
      have fin : OkD (.ok d U) (LeafQ p m l S) := by
        have : ∃ v, d = .int v ∧ B v := by
          simp only [List.mem_cons, List.not_mem_nil, or_false] at hd
          rcases hd with rfl | rfl | rfl | rfl | rfl | rfl | rfl | rfl | rfl | rfl <;> exact ⟨_, rfl, by unfold B; omega⟩
        obtain ⟨v, rfl, hv⟩ := this
        exact OkD.ok (Q := LeafQ p m l S) ⟨.num v, rfl, hv, rfl, rfl, hpU, hT.trans hU⟩
      have hpw := @q_pow
      generalize LeafQ p m l S = Q at fin ⊢
      unfold m_L_law_leaf b_L_law_leaf
      clear hpT hT hp hpU hU hk hd c1 c2 hm
      rcases d1 with d1 | ⟨d1, d2⟩ <;> rcases d3 with d3 | ⟨d3, d4⟩ <;> walk_at "m" <;> exact fin
end PP

/-! k83, plain: expressions drawn. -/
namespace PP
open PySem L2 MM
local macro_rules
  | `(tactic| walk_at "m") => `(tactic| simp only [R.bind_ok, ofString_strOk, List.length_cons, List.length_nil, List.set_cons_zero, List.set_cons_succ, if_true, if_false, reduceIte, Bool.not_true, Bool.not_false, List.any_cons, List.any_nil, List.all_cons, List.all_nil, Bool.or_true, Bool.or_false, Bool.true_or, Bool.false_or, Bool.and_true, Bool.true_and, Bool.false_and, Bool.and_false, String.reduceEq, String.reduceBEq, decide_true, decide_false, Store.get_set, Store.get_push, Store.next_set, Store.next_push, fitsN, valD_put_same, List.lookup_cons, List.lookup_nil, List.mem_cons, List.not_mem_nil, or_false, putD, Option.isSome_some, Option.isSome_none, Nat.reduceSub, Int.cast_ofNat_Int, Nat.reduceLT, Nat.reduceAdd, Nat.reduceLeDiff, Nat.reduceEqDiff, Int.reduceNeg, List.replicate, Bool.false_eq_true, reduceCtorEq, beq_self_eq_true, ne_eq, not_true_eq_false, not_false_eq_true, List.append_nil, List.nil_append, List.cons_append, and_true, true_and, Int.reduceEq, Int.reduceBEq, Int.reduceLT, Int.reduceLE, q_k_drop, q_k_ret, q_k_ifs, q_k_asg2, q_k_asg, q_k_par2, q_k_par, q_k_keep, q_k_gsub2, q_k_gsub, q_k_gcons, q_k_op, q_k_and, q_k_or, q_k_not, q_k_andE2, q_k_andE, q_k_orE2, q_k_orE, q_k_notE2, q_k_notE, q_k_if, q_k_cons2, q_k_cons, q_k_tup, q_k_fits, q_k_new, q_k_meth3, q_k_meth2, q_k_meth, q_k_make2, q_k_make, q_k_bm, q_k_gfld, q_k_chain4, q_k_chain3, q_k_chain2, q_k_chain, q_k_sl3, q_k_sl2, q_k_sl, q_k_rng2, q_e_seq, q_e_seqK, q_e_seqKr, q_e_def, q_e_end, q_e_endr, q_e_drop, q_e_ret, q_e_ifs, q_e_asg, q_e_next, q_e_par, q_e_gn, q_e_gsub, q_e_gnil, q_e_gcons, q_e_gt, q_e_c, q_e_op, q_e_un, q_e_b, q_e_asB, q_e_and, q_e_or, q_e_not, q_e_andE, q_e_orE, q_e_notE, q_e_if, q_e_nil, q_e_cons, q_e_tup, q_e_fits, q_e_new, q_e_dnew, q_e_call, q_e_meth, q_e_make, q_e_bm, q_e_fld, q_e_gfld, q_e_chain, q_e_sl, q_e_no, q_e_some, q_e_asI, q_e_isB, q_e_yes, q_e_rng1, q_e_rng2, q_e_is, q_e_v0, q_e_v1, q_e_v2, q_e_v3, q_e_v4, q_e_v5, q_e_v6, q_e_v7, q_e_v8, q_e_v9, q_e_v10, q_e_mapc, q_e_mapn, q_e_appc, q_e_appn, q_e_rep0, q_e_rep1, q_e_rep2, q_e_rep3, q_e_rep4, q_e_rep5, q_e_rep6, q_e_rep7, q_e_rep8, q_e_rep9, q_ix_ref, q_ix_tup, q_ix_rl, q_ixO_l, q_ixO_di, q_ixO_ds, q_valR_some, q_atR_0, q_atR_1, q_atR_2, q_atR_3, q_atR_4, q_atR_last, q_atR_last1, q_atR_last3, q_atR_last4, q_atR_last2, q_set_ref, q_putR_0, q_putR_1, q_putR_2, q_putR_3, q_setO_l, q_setLR_some, q_setO_di, q_setO_ds, q_getF_ref, q_getFO_i, q_setF_ref, q_setFO_i, q_asIns_ref, q_asInsO_i, q_isLst_ref, q_isLstO_l, q_app_ref, q_appO_l, q_lts, q_pop_ref, q_popO_l, q_popO_1, q_len_ref, q_lenO_l, q_lenO_d, q_len_tup, q_len_rl, q_in_ref, q_inO_di, q_inO_ds, q_inO_l, q_in_tup, q_tup_ref, q_tupO_l, q_add_ref, q_catO_l, q_add_int, q_add_tup, q_sub_int, q_lt_int, q_le_int, q_gt_int, q_ge_int, q_neg_int, q_mul_int, q_mod_int, q_fdiv_int, q_abs_int, q_int_int, q_int_bl, q_max_int, q_min_int, q_divmod_int, q_is_non, q_isnot_non, q_is_bl, q_isnot_bl, q_str_inj, q_str_beq, q_eq_str, q_ne_str, q_eq_int, q_ne_int, q_eq_ref, q_ne_ref, q_eqO_i, q_eqO_n, q_emp, q_emp0, q_nx1, q_nx2, q_nx3, q_nx4, q_nx5, q_nx6, q_nx7, q_nx8, q_nx9, q_nxa, q_nxb, q_nxc, q_nxd, q_ne_tup2, q_mul_ref, q_mulO_1, q_ext_ref, q_extO_l, q_flat_int, q_flat_str, q_flat_bl, q_flat_non, q_eqF_int, q_eqF_str, q_isB_int, q_isB_str, q_isB_bl, q_isB_tup, q_isB_rl, q_isB_non, q_isB_ref, q_isBO_l, q_isBO_d, q_isNon_ref, q_isNon_int, q_isNon_str, q_isNon_tup, q_isNon_bl, q_isNon_non, *])
def nextK (next : MM.Env → Store → R Fl) : Fl → Store → R Fl
  | .nx ρ', S2 => next ρ' S2
  | .ct ρ', S2 => next ρ' S2
  | .bk ρ', S2 => .ok (.nx ρ') S2
  | .rt d, S2 => .ok (.rt d) S2
def turnK (g : MG) (b : MS) (k : Int) (next : MM.Env → Store → R Fl) : MM.Env → Store → R Fl := fun ρ S => (g (.int k) ρ S).bind fun ρ1 S1 => (b ρ1 S1).bind (nextK next)
def doneK : MM.Env → Store → R Fl := fun ρ S => .ok (.nx ρ) S
theorem forL_turn {lo : Int} {N : Nat} {g : MG} {b : MS} {n i : Nat} (h : i < N) : mForL (.rng lo N) g b (n + 1) i = turnK g b (lo + (i : Nat)) (mForL (.rng lo N) g b n (i + 1)) := by
  funext ρ S
  conv => lhs; unfold mForL
  unfold turnK
  have e : IT.at (.rng lo N) i S = some (some (.int (lo + (i : Nat)))) := by
    unfold IT.at
    dsimp only
    rw [if_pos h]
  rw [e]
  dsimp only
  congr 1
  funext ρ1 S1
  congr 1
  funext f S2
  cases f <;> rfl
theorem forL_done {lo : Int} {N : Nat} {g : MG} {b : MS} {n i : Nat} (h : ¬ i < N) : mForL (.rng lo N) g b (n + 1) i = doneK := by
  funext ρ S
  conv => lhs; unfold mForL
  unfold doneK
  have e : IT.at (.rng lo N) i S = some none := by
    unfold IT.at
    dsimp only
    rw [if_neg h]
  rw [e]
theorem q_for3 {g : MG} {b : MS} {ρ : MM.Env} {S : Store} : mFor (mRng1 (mC (.int 3))) g b ρ S = turnK g b 0 (turnK g b 1 (turnK g b 2 doneK)) ρ S := by
  have e : mFor (mRng1 (mC (.int 3))) g b ρ S = mForL (.rng 0 3) g b 4 0 ρ S := rfl
  rw [e, forL_turn (n := 3) (by omega), forL_turn (n := 2) (by omega), forL_turn (n := 1) (by omega), forL_done (n := 0) (by omega)]
  rfl
theorem q_turnK {g : MG} {b : MS} {k : Int} {next : MM.Env → Store → R Fl} {ρ : MM.Env} {S : Store} : turnK g b k next ρ S = (g (.int k) ρ S).bind fun ρ1 S1 => (b ρ1 S1).bind (nextK next) := by unfold turnK; rfl
theorem q_nextK {next : MM.Env → Store → R Fl} {ρ : MM.Env} {S : Store} : nextK next (.nx ρ) S = next ρ S := rfl
theorem q_nextKr {next : MM.Env → Store → R Fl} {d : D} {S : Store} : nextK next (.rt d) S = .ok (.rt d) S := rfl
theorem q_doneK {ρ : MM.Env} {S : Store} : doneK ρ S = .ok (.nx ρ) S := rfl
def LB : Nat → Nat
  | 0 => 2
  | d + 1 => 3 * LB d + 3
theorem LB_ge : ∀ d, 2 ≤ LB d
  | 0 => Nat.le_refl _
  | d + 1 => by unfold LB; have := LB_ge d; omega
def DrawnQ (p d m l : Nat) (S : Store) (x : D) (T : Store) : Prop := ∃ e : Xp, x = e.enc ∧ e.wf m l ∧ e.len ≤ LB d ∧ e.dep ≤ d + 1 ∧ PotAt T p ∧ Keep p S T
def opOf : List Op := [.add, .less, .times, .over, .left, .below, .equal]
theorem op_mem {d : D} (h : d ∈ [D.str (Str.ofString "add"), .str (Str.ofString "less"), .str (Str.ofString "times"), .str (Str.ofString "over"), .str (Str.ofString "left"), .str (Str.ofString "below"), .str (Str.ofString "equal")]) : ∃ w : Op, d = .str (Str.ofString w.w) := by
  simp only [List.mem_cons, List.not_mem_nil, or_false] at h
  rcases h with rfl | rfl | rfl | rfl | rfl | rfl | rfl
  · exact ⟨.add, rfl⟩
  · exact ⟨.less, rfl⟩
  · exact ⟨.times, rfl⟩
  · exact ⟨.over, rfl⟩
  · exact ⟨.left, rfl⟩
  · exact ⟨.below, rfl⟩
  · exact ⟨.equal, rfl⟩
theorem drawn_ok {m : Nat} (hm : m ≤ 1000) {p : Nat} : ∀ (fuel d l : Nat) (S : Store), d < fuel → PotAt S p → OkD (M_L_law_drawn fuel [.ref p, .int (d : Nat), .int (l : Nat), .int (m : Nat)] S) (DrawnQ p d m l S)
  | 0, d, l, S, h, hp => absurd h (Nat.not_lt_zero _)
  | n + 1, d, l, S, h, hp => by
    obtain ⟨_, T, e1, k, rfl, hk, hpT, hT⟩ := (draw_ok (n := 10) hp (by omega) (by omega)).ex
    replace e1 : m_L_law_draw [.ref p, .int 10] S = .ok (.int (k : Nat)) T := e1
    by_cases c1 : d = 0 ∨ k < 2
    · obtain ⟨_, U, e2, e, rfl, hw, hlen, hdep, hpU, hU⟩ := (leaf_ok (l := l) hpT hm).ex
      have fin : OkD (.ok e.enc U) (DrawnQ p d m l S) := OkD.ok (Q := DrawnQ p d m l S) ⟨e, rfl, hw, by have := LB_ge d; omega, by omega, hpU, hT.trans hU⟩
      generalize DrawnQ p d m l S = Q at fin ⊢
      simp only [M_L_law_drawn]
      by_cases z : d = 0
      · have d1 : (((d : Nat) : Int) == 0) = true := by simp [z]
        clear hp hpT hT hk hpU hU hm h c1 z hw hlen hdep
        walk_at "m"
      · have d1 : (((d : Nat) : Int) == 0) = false := by simp [z]
        have d2 : decide (((k : Nat) : Int) < 2) = true := decide_eq_true (by omega)
        clear hp hpT hT hk hpU hU hm h c1 z hw hlen hdep
        walk_at "m"
    · have d1 : (((d : Nat) : Int) == 0) = false := by simp; omega
      have d2 : decide (((k : Nat) : Int) < 2) = false := decide_eq_false (by omega)
      obtain ⟨d', rfl⟩ : ∃ d', d = d' + 1 := ⟨d - 1, by omega⟩
      have ds : (((d' + 1 : Nat)) : Int) - 1 = ((d' : Nat) : Int) := by omega
      by_cases c2 : k < 6
      · have d3 : decide (((k : Nat) : Int) < 6) = true := decide_eq_true (by omega)
        obtain ⟨w, U, e2, hw, hpU, hU⟩ := (pick_new (ds := [D.str (Str.ofString "add"), .str (Str.ofString "less"), .str (Str.ofString "times"), .str (Str.ofString "over"), .str (Str.ofString "left"), .str (Str.ofString "below"), .str (Str.ofString "equal")]) hpT (by simp) (by simp)).ex
        obtain ⟨w, rfl⟩ := op_mem hw
        obtain ⟨_, V, e3, a, rfl, wa, la, da, hpV, hV⟩ := (drawn_ok hm n d' l U (by omega) hpU).ex
        obtain ⟨_, W, e4, b, rfl, wb, lb, db, hpW, hW⟩ := (drawn_ok hm n d' l V (by omega) hpV).ex
        have fin : OkD (.ok (.tup [.str (Str.ofString w.w), a.enc, b.enc]) W) (DrawnQ p (d' + 1) m l S) := OkD.ok (Q := DrawnQ p (d' + 1) m l S) ⟨.op w a b, rfl, ⟨wa, wb⟩, by unfold LB; simp only [Xp.len]; omega, by simp only [Xp.dep]; omega, hpW, ((hT.trans hU).trans hV).trans hW⟩
        generalize DrawnQ p (d' + 1) m l S = Q at fin ⊢
        simp only [M_L_law_drawn]
        clear hp hpT hT hk hpU hU hm h c1 c2 hw wa la da hpV hV wb lb db hpW hW
        walk_at "m"
      · have d3 : decide (((k : Nat) : Int) < 6) = false := decide_eq_false (by omega)
        by_cases c3 : k < 8 ∨ 1 < l
        · have d4 : decide (((k : Nat) : Int) < 8) = true ∨ (decide (((k : Nat) : Int) < 8) = false ∧ decide ((1 : Int) < ((l : Nat) : Int)) = true) := by
            by_cases z : k < 8
            · exact .inl (decide_eq_true (by omega))
            · exact .inr ⟨decide_eq_false (by omega), decide_eq_true (by omega)⟩
          obtain ⟨_, U, e2, a, rfl, wa, la, da, hpU, hU⟩ := (drawn_ok hm n d' l T (by omega) hpT).ex
          obtain ⟨_, V, e3, b, rfl, wb, lb, db, hpV, hV⟩ := (drawn_ok hm n d' l U (by omega) hpU).ex
          obtain ⟨_, W, e4, c, rfl, wc, lc, dc, hpW, hW⟩ := (drawn_ok hm n d' l V (by omega) hpV).ex
          have fin : OkD (.ok (.tup [.str (Str.ofString "if"), a.enc, b.enc, c.enc]) W) (DrawnQ p (d' + 1) m l S) := OkD.ok (Q := DrawnQ p (d' + 1) m l S) ⟨.ite a b c, rfl, ⟨wa, wb, wc⟩, by unfold LB; simp only [Xp.len]; omega, by simp only [Xp.dep]; omega, hpW, ((hT.trans hU).trans hV).trans hW⟩
          generalize DrawnQ p (d' + 1) m l S = Q at fin ⊢
          have f3 := @q_for3
          have f4 := @q_turnK
          have f5 := @q_nextK
          have f6 := @q_doneK
          simp only [M_L_law_drawn]
          clear hp hpT hT hk hpU hU hm h c1 c2 c3 wa la da hpV hV wb lb db wc lc dc hpW hW
          rcases d4 with d4 | ⟨d4, d5⟩ <;> walk_at "m"
        · have d4 : decide (((k : Nat) : Int) < 8) = false := decide_eq_false (by omega)
          have d5 : decide ((1 : Int) < ((l : Nat) : Int)) = false := decide_eq_false (by omega)
          obtain ⟨_, U, e2, f, rfl, wf, lf, df, hpU, hU⟩ := (leaf_ok (l := l) hpT hm).ex
          obtain ⟨t, V, e3, ht, hpV, hV⟩ := (pick_new (ds := [.int 2, .int 3, .int 1, .int 0, .int (-1), .int 4, .int 201, .tup [.str (Str.ofString "add"), .int 1, .int 1], f.enc]) hpU (by simp) (by simp)).ex
          obtain ⟨t', rfl, wt, lt, dt⟩ : ∃ t' : Xp, t = t'.enc ∧ t'.wf m l ∧ t'.len ≤ 3 ∧ t'.dep ≤ 1 := by
            simp only [List.mem_cons, List.not_mem_nil, or_false] at ht
            have num : ∀ v : Int, B v → ∃ t' : Xp, D.int v = t'.enc ∧ t'.wf m l ∧ t'.len ≤ 3 ∧ t'.dep ≤ 1 := fun v hv => ⟨.num v, rfl, hv, by simp [Xp.len], by simp [Xp.dep]⟩
            rcases ht with rfl | rfl | rfl | rfl | rfl | rfl | rfl | rfl | rfl
            · exact num _ (by unfold B; omega)
            · exact num _ (by unfold B; omega)
            · exact num _ (by unfold B; omega)
            · exact num _ (by unfold B; omega)
            · exact num _ (by unfold B; omega)
            · exact num _ (by unfold B; omega)
            · exact num _ (by unfold B; omega)
            · exact ⟨.op .add (.num 1) (.num 1), rfl, ⟨by simp only [Xp.wf]; unfold B; omega, by simp only [Xp.wf]; unfold B; omega⟩, by simp [Xp.len], by simp [Xp.dep]⟩
            · exact ⟨f, rfl, wf, by omega, by omega⟩
          obtain ⟨_, W, e4, a, rfl, wa, la, da, hpW, hW⟩ := (drawn_ok hm n d' l V (by omega) hpV).ex
          obtain ⟨_, Y, e5, b, rfl, wb, lb, db, hpY, hY⟩ := (drawn_ok hm n d' (l + 1) W (by omega) hpW).ex
          have ls : ((l + 1 : Nat) : Int) = ((l : Nat) : Int) + 1 := by omega
          rw [ls] at e5
          have hge := LB_ge d'
          have fin : OkD (.ok (.tup [.str (Str.ofString "loop"), t'.enc, a.enc, b.enc]) Y) (DrawnQ p (d' + 1) m l S) := OkD.ok (Q := DrawnQ p (d' + 1) m l S) ⟨.loop t' a b, rfl, ⟨wt, wa, wb⟩, by unfold LB; simp only [Xp.len]; omega, by simp only [Xp.dep]; omega, hpY, (((hT.trans hU).trans hV).trans hW).trans hY⟩
          generalize DrawnQ p (d' + 1) m l S = Q at fin ⊢
          simp only [M_L_law_drawn]
          clear hp hpT hT hk hpU hU hm h c1 c2 c3 ht hpV hV wt lt dt wa la da hpW hW wb lb db hpY hY ls hge wf lf df
          walk_at "m"
end PP

/-! plain: repr of data. -/
namespace PP
open PySem L2 MM
/-- d is data of depth at most n, its repr at most c long, whatever the store -/
def Pl (n c : Nat) (d : D) : Prop := ∃ pd : PyData, (∀ S f, n < f → toP S f d = some pd) ∧ pd.showable = true ∧ pd.canLay0 = true ∧ pd.depth ≤ n ∧ pd.shown.length ≤ c ∧ PyData.strOk pd.shown = true
theorem ofString_len (s : String) : (Str.ofString s).length = s.length := by
  rw [Str.ofString_eq_toList]
  simp only [Str.length, List.size_toArray, List.length_map]
  exact String.length_toList
theorem natRepr_le {n k : Nat} (h : n < 10 ^ k) (hk : 0 < k) : (toString n).length ≤ k := (Nat.length_repr_le_iff hk).mpr h
theorem intStr_le {i : Int} (h : B i) : (toString i).length ≤ 20 := by
  unfold B at h
  cases i with
  | ofNat m =>
    have h1 := natRepr_le (n := m) (k := 13) (by simp at h; omega) (by decide)
    show (toString m).length ≤ 20
    omega
  | negSucc m =>
    have h1 := natRepr_le (n := m + 1) (k := 13) (by omega) (by decide)
    show ("-" ++ toString (m + 1)).length ≤ 20
    rw [String.length_append]
    have : ("-" : String).length = 1 := rfl
    omega
theorem strOk_app (a b : Str) : PyData.strOk (a ++ b) = (PyData.strOk a && PyData.strOk b) := by
  show (a.cps ++ b.cps).all _ = _
  rw [Array.all_append]
  rfl
theorem strOk_join : ∀ ts : List Str, (∀ t ∈ ts, PyData.strOk t = true) → PyData.strOk (Str.join ", " ts) = true
  | [], _ => by simp [Str.join, PyData.strOk, Str.empty]
  | [x], h => h x (by simp)
  | x :: y :: r, h => by
    have ih := strOk_join (y :: r) fun t ht => h t (List.mem_cons_of_mem _ ht)
    show PyData.strOk (x ++ Str.ofString ", " ++ Str.join ", " (y :: r)) = true
    rw [strOk_app, strOk_app, ih, h x List.mem_cons_self, ofString_strOk]
    rfl
theorem strOk_tupleText (ts : List Str) (h : ∀ t ∈ ts, PyData.strOk t = true) : PyData.strOk (tupleText ts) = true := by
  unfold tupleText
  rw [strOk_app, strOk_app, strOk_join ts h, ofString_strOk, ofString_strOk]
  rfl
theorem pl_int {i : Int} (h : B i) : Pl 0 20 (.int i) := by
  refine ⟨.int i, fun S f hf => ?_, ?_, rfl, Nat.le_refl _, ?_, ofString_strOk _⟩
  · cases f with
    | zero => exact absurd hf (Nat.lt_irrefl _)
    | succ f => rfl
  · have := log2_B h
    simp only [PyData.showable]
    exact decide_eq_true (by omega)
  · show (Str.ofString (toString i)).length ≤ 20
    rw [ofString_len]
    exact intStr_le h
theorem pl_str {s : String} (h : (PyData.str (Str.ofString s)).shown.length ≤ 20) (h2 : PyData.strOk (PyData.str (Str.ofString s)).shown = true) : Pl 0 20 (.str (Str.ofString s)) := by
  refine ⟨.str (Str.ofString s), fun S f hf => ?_, rfl, ?_, Nat.le_refl _, h, h2⟩
  · cases f with
    | zero => exact absurd hf (Nat.lt_irrefl _)
    | succ f => rfl
  · simp only [PyData.canLay0]
    exact ofString_strOk s
theorem Pl.up {n c m e : Nat} {d : D} (h : Pl n c d) (h1 : n ≤ m) (h2 : c ≤ e) : Pl m e d := by
  obtain ⟨pd, a, b, c', d', e', f'⟩ := h
  exact ⟨pd, fun S f hf => a S f (by omega), b, c', by omega, by omega, f'⟩
theorem strLen_app (a b : Str) : (a ++ b).length = a.length + b.length := by
  show (a.cps ++ b.cps).size = _
  simp [Str.length]
theorem tupleText_le (ts : List Str) (c : Nat) (h : ∀ t ∈ ts, t.length ≤ c) : (tupleText ts).length ≤ ts.length * (c + 2) + 3 := by
  have hp : piled ts ≤ ts.length * (c + 2) := by
    induction ts with
    | nil => simp [piled]
    | cons t r ih =>
      rw [piled_cons, List.length_cons, Nat.add_mul]
      have h1 := ih fun t ht => h t (by simp [ht])
      have h2 := h t (by simp)
      omega
  have hj : (Str.join ", " ts).length ≤ piled ts := by
    by_cases e : ts = []
    · subst e; exact Nat.zero_le _
    · have := join_length_add ts e
      omega
  unfold tupleText
  rw [strLen_app, strLen_app]
  have e1 : ((("(" : String) : Str)).length = 1 := rfl
  have e3 : (((if ts.length == 1 then ",)" else ")" : String) : Str)).length ≤ 2 := by split <;> decide
  omega
/-- the words that stand in data here -/
def words : List String := ["fault", "value", "ring", "nought", "great", "long", "on", "code", "push", "call", "unless", "go", "open", "close", "add", "less", "times", "over", "left", "below", "equal", "so far", "turn", "return"]
theorem words_ok : (words.all fun w => decide ((PyData.str (Str.ofString w)).shown.length ≤ 20) && PyData.strOk (PyData.str (Str.ofString w)).shown) = true := by decide +kernel
theorem pl_word {w : String} (h : w ∈ words) : Pl 0 20 (.str (Str.ofString w)) := by
  have := List.all_eq_true.mp words_ok w h
  rw [Bool.and_eq_true] at this
  exact pl_str (of_decide_eq_true this.1) this.2
theorem pl_all {n c : Nat} : ∀ {ds : List D}, (∀ d ∈ ds, Pl n c d) → ∃ ps : List PyData, (∀ S f, n < f → optAll (toP S f) ds = some ps) ∧ PyData.showableAll ps = true ∧ PyData.canLayAll0 ps = true ∧ PyData.depthAll ps ≤ n ∧ (PyData.shownAll ps).length = ds.length ∧ ∀ t ∈ PyData.shownAll ps, t.length ≤ c ∧ PyData.strOk t = true
  | [], _ => ⟨[], fun _ _ _ => rfl, rfl, rfl, Nat.zero_le _, rfl, fun _ h => nomatch h⟩
  | d :: ds, h => by
    obtain ⟨p, a1, a2, a3, a4, a5, a6⟩ := h d (by simp)
    obtain ⟨ps, b1, b2, b3, b4, b5, b6⟩ := pl_all (ds := ds) fun d hd => h d (List.mem_cons_of_mem _ hd)
    refine ⟨p :: ps, fun S f hf => ?_, ?_, ?_, ?_, ?_, ?_⟩
    · unfold optAll
      rw [a1 S f hf, b1 S f hf]
    · simp only [PyData.showableAll, a2, b2]; rfl
    · simp only [PyData.canLayAll0, a3, b3]; rfl
    · simp only [PyData.depthAll]; omega
    · simp only [PyData.shownAll, List.length_cons, b5]
    · intro t ht
      simp only [PyData.shownAll, List.mem_cons] at ht
      rcases ht with rfl | ht
      · exact ⟨a5, a6⟩
      · exact b6 t ht
theorem pl_tup {n c : Nat} {ds : List D} (h : ∀ d ∈ ds, Pl n c d) : Pl (n + 1) (ds.length * (c + 2) + 3) (.tup ds) := by
  obtain ⟨ps, b1, b2, b3, b4, b5, b6⟩ := pl_all h
  refine ⟨.tuple ps, fun S f hf => ?_, ?_, ?_, ?_, ?_, ?_⟩
  · cases f with
    | zero => exact absurd hf (Nat.not_lt_zero _)
    | succ f =>
      unfold toP
      dsimp only
      rw [b1 S f (by omega)]
      rfl
  · simp only [PyData.showable]; exact b2
  · simp only [PyData.canLay0]; exact b3
  · simp only [PyData.depth]; omega
  · simp only [PyData.shown]
    have := tupleText_le _ _ fun t ht => (b6 t ht).1
    rw [b5] at this
    exact this
  · simp only [PyData.shown]
    exact strOk_tupleText _ fun t ht => (b6 t ht).2
/-- what repr gives of data -/
theorem repr_ok {n c : Nat} {ds : List D} (h : Pl n c (.tup ds)) (hn : n ≤ 60) (hc : c ≤ 16000000) : ∃ s : Str, PyData.strOk s = true ∧ ∀ S, bRepr [.tup ds] S = .ok (.str s) S := by
  obtain ⟨pd, a1, a2, a3, a4, a5, a6⟩ := h
  refine ⟨pd.shown, a6, fun S => ?_⟩
  unfold bRepr
  dsimp only
  rw [if_pos (show (D.tup ds).isRef = true from rfl), a1 S 66 (by omega)]
  dsimp only
  rw [if_pos]
  rw [a2, a3, decide_eq_true (show pd.depth ≤ 62 by omega), q_fits_of (show pd.shown.length ≤ 16000000 by omega)]
  rfl
end PP

/-! k83, plain: codes drawn. -/
namespace PP
open PySem L2 MM
local macro_rules
  | `(tactic| walk_at "m") => `(tactic| simp only [R.bind_ok, ofString_strOk, List.length_cons, List.length_nil, List.set_cons_zero, List.set_cons_succ, if_true, if_false, reduceIte, Bool.not_true, Bool.not_false, List.any_cons, List.any_nil, List.all_cons, List.all_nil, Bool.or_true, Bool.or_false, Bool.true_or, Bool.false_or, Bool.and_true, Bool.true_and, Bool.false_and, Bool.and_false, String.reduceEq, String.reduceBEq, decide_true, decide_false, Store.get_set, Store.get_push, Store.next_set, Store.next_push, fitsN, valD_put_same, List.lookup_cons, List.lookup_nil, List.mem_cons, List.not_mem_nil, or_false, putD, Option.isSome_some, Option.isSome_none, Nat.reduceSub, Int.cast_ofNat_Int, Nat.reduceLT, Nat.reduceAdd, Nat.reduceLeDiff, Nat.reduceEqDiff, Int.reduceNeg, List.replicate, Bool.false_eq_true, reduceCtorEq, beq_self_eq_true, ne_eq, not_true_eq_false, not_false_eq_true, List.append_nil, List.nil_append, List.cons_append, and_true, true_and, Int.reduceEq, Int.reduceBEq, Int.reduceLT, Int.reduceLE, q_k_drop, q_k_ret, q_k_ifs, q_k_asg2, q_k_asg, q_k_par2, q_k_par, q_k_keep, q_k_gsub2, q_k_gsub, q_k_gcons, q_k_op, q_k_and, q_k_or, q_k_not, q_k_andE2, q_k_andE, q_k_orE2, q_k_orE, q_k_notE2, q_k_notE, q_k_if, q_k_cons2, q_k_cons, q_k_tup, q_k_fits, q_k_new, q_k_meth3, q_k_meth2, q_k_meth, q_k_make2, q_k_make, q_k_bm, q_k_gfld, q_k_chain4, q_k_chain3, q_k_chain2, q_k_chain, q_k_sl3, q_k_sl2, q_k_sl, q_k_rng2, q_e_seq, q_e_seqK, q_e_seqKr, q_e_def, q_e_end, q_e_endr, q_e_drop, q_e_ret, q_e_ifs, q_e_asg, q_e_next, q_e_par, q_e_gn, q_e_gsub, q_e_gnil, q_e_gcons, q_e_gt, q_e_c, q_e_op, q_e_un, q_e_b, q_e_asB, q_e_and, q_e_or, q_e_not, q_e_andE, q_e_orE, q_e_notE, q_e_if, q_e_nil, q_e_cons, q_e_tup, q_e_fits, q_e_new, q_e_dnew, q_e_call, q_e_meth, q_e_make, q_e_bm, q_e_fld, q_e_gfld, q_e_chain, q_e_sl, q_e_no, q_e_some, q_e_asI, q_e_isB, q_e_yes, q_e_rng1, q_e_rng2, q_e_is, q_e_v0, q_e_v1, q_e_v2, q_e_v3, q_e_v4, q_e_v5, q_e_v6, q_e_v7, q_e_v8, q_e_v9, q_e_v10, q_e_mapc, q_e_mapn, q_e_appc, q_e_appn, q_e_rep0, q_e_rep1, q_e_rep2, q_e_rep3, q_e_rep4, q_e_rep5, q_e_rep6, q_e_rep7, q_e_rep8, q_e_rep9, q_ix_ref, q_ix_tup, q_ix_rl, q_ixO_l, q_ixO_di, q_ixO_ds, q_valR_some, q_atR_0, q_atR_1, q_atR_2, q_atR_3, q_atR_4, q_atR_last, q_atR_last1, q_atR_last3, q_atR_last4, q_atR_last2, q_set_ref, q_putR_0, q_putR_1, q_putR_2, q_putR_3, q_setO_l, q_setLR_some, q_setO_di, q_setO_ds, q_getF_ref, q_getFO_i, q_setF_ref, q_setFO_i, q_asIns_ref, q_asInsO_i, q_isLst_ref, q_isLstO_l, q_app_ref, q_appO_l, q_lts, q_pop_ref, q_popO_l, q_popO_1, q_len_ref, q_lenO_l, q_lenO_d, q_len_tup, q_len_rl, q_in_ref, q_inO_di, q_inO_ds, q_inO_l, q_in_tup, q_tup_ref, q_tupO_l, q_add_ref, q_catO_l, q_add_int, q_add_tup, q_sub_int, q_lt_int, q_le_int, q_gt_int, q_ge_int, q_neg_int, q_mul_int, q_mod_int, q_fdiv_int, q_abs_int, q_int_int, q_int_bl, q_max_int, q_min_int, q_divmod_int, q_is_non, q_isnot_non, q_is_bl, q_isnot_bl, q_str_inj, q_str_beq, q_eq_str, q_ne_str, q_eq_int, q_ne_int, q_eq_ref, q_ne_ref, q_eqO_i, q_eqO_n, q_emp, q_emp0, q_nx1, q_nx2, q_nx3, q_nx4, q_nx5, q_nx6, q_nx7, q_nx8, q_nx9, q_nxa, q_nxb, q_nxc, q_nxd, q_ne_tup2, q_mul_ref, q_mulO_1, q_ext_ref, q_extO_l, q_flat_int, q_flat_str, q_flat_bl, q_flat_non, q_eqF_int, q_eqF_str, q_isB_int, q_isB_str, q_isB_bl, q_isB_tup, q_isB_rl, q_isB_non, q_isB_ref, q_isBO_l, q_isBO_d, q_isNon_ref, q_isNon_int, q_isNon_str, q_isNon_tup, q_isNon_bl, q_isNon_non, *])
def bodyC : MS := (mDrop (mBM isLst bAppend (mVar 2) (mCons (mCall m_L_law_routine (mCons (mVar 0) (mCons (mIf (mB (mOp opEq (mVar 4) (mC (.int (0))))) (mC (.int (3))) (mC (.int (2)))) (mCons (mIf (mB (mVar 3)) (mVar 1) (mVar 4)) mNil)))) mNil)))
def bodyG : MS := (mSeq (mAsg (mCall m_L_law_pick (mCons (mVar 0) (mCons (mNew (mFits (mCons (mTup (mCons (mC (.str "add")) mNil)) (mCons (mTup (mCons (mC (.str "less")) mNil)) (mCons (mTup (mCons (mC (.str "add")) mNil)) mNil))))) mNil))) (mGN 5))
  (mDrop (mBM isLst bAppend (mVar 3) (mCons (mTup (mCons (mTup (mCons (mC (.str "call")) (mCons (mVar 4) mNil))) (mCons (mTup (mCons (mC (.str "push")) (mCons (mOp opAdd (mC (.int (1))) (mOp opMod (mCall bInt (mCons (mVar 4) mNil)) (mC (.int (3))))) mNil))) (mCons (mVar 5) (mCons (mTup (mCons (mC (.str "return")) mNil)) mNil))))) mNil))))
theorem Keep.ofA {p : Nat} {S T : Store} (h : KeepA S T) : Keep p S T := ⟨h.1, fun q hq _ => h.2 q hq⟩
theorem PotAt.keepA {S T : Store} {p : Nat} (h : PotAt S p) (k : KeepA S T) : PotAt T p := by
  obtain ⟨a, b, h1, h2, h3, h4⟩ := h
  exact ⟨a, b, by rw [k.2 p h4]; exact h1, h2, h3, Nat.lt_of_lt_of_le h4 k.1⟩
abbrev encR (r : List I) : D := .tup (r.map I.enc)
def RtOk (many : Nat) (r : List I) : Prop := ∃ e : Xp, e.wf many 0 ∧ e.len ≤ 93 ∧ r = lay e 0 ++ [.ret]
def RtQ (p many : Nat) (S : Store) (d : D) (T : Store) : Prop := ∃ r, RtOk many r ∧ d = encR r ∧ PotAt T p ∧ Keep p S T
/-- tuple(_law_laid(e, 0) + [('return',)]) -/
theorem routine_ok {S : Store} {p d m : Nat} (hm : m ≤ 1000) (hd : d ≤ 3) (hp : PotAt S p) : OkD (m_L_law_routine [.ref p, .int (d : Nat), .int (m : Nat)] S) (RtQ p m S) := by
  obtain ⟨_, T, e1, e, rfl, hw, hlen, hdep, hpT, hT⟩ := (drawn_ok hm 12 d 0 S (by omega) hp).ex
  have hlb : LB d ≤ 93 := by
    rcases d with _ | _ | _ | _ | d
    · decide
    · decide
    · decide
    · decide
    · omega
  obtain ⟨_, U, e2, q, rfl, g2, f2, m2, k2⟩ := (laid_ok 12 e 0 (by omega) (by omega) T).ex
  replace e1 : M_L_law_drawn 12 [.ref p, .int (d : Nat), .int 0, .int (m : Nat)] S = .ok e.enc T := e1
  replace e2 : M_L_law_laid 12 [e.enc, .int 0] T = .ok (.ref q) U := e2
  have n2 := nes m2
  have hl2 : ((lay e 0).map I.enc).length = e.len := by rw [List.length_map, lay_len]
  have b1 : e.len + 1 ≤ 16000000 := by omega
  have fin : ∀ o, OkD (.ok (.tup ((lay e 0).map I.enc ++ [.tup [.str (Str.ofString "return")]])) ((U.push (.lst [.tup [.str (Str.ofString "return")]])).push o)) (RtQ p m S) := fun o => OkD.ok (Q := RtQ p m S) ⟨lay e 0 ++ [.ret], ⟨e, hw, by omega, rfl⟩, by simp only [encR, List.map_append, List.map_cons, List.map_nil, I.enc], ((hpT.keepA k2).push _).push _, ((hT.trans (Keep.ofA k2)).trans (Keep.push _ _ _)).trans (Keep.push _ _ _)⟩
  generalize RtQ p m S = Q at fin ⊢
  unfold m_L_law_routine b_L_law_routine
  clear hp hpT hT hw hlen hdep hlb k2 f2 m2 hm hd
  walk_at "m"
theorem stand_rt {many N : Nat} {r : List I} (h : RtOk many r) (hm : many ≤ N) : r.length ≤ 1000 ∧ ∃ F, Stand N r F := by
  obtain ⟨e, hw, hl, rfl⟩ := h
  exact ⟨by rw [List.length_append, lay_len]; simp; omega, _, stand_lay hm hw⟩
def RtOk' (N : Nat) (r : List I) : Prop := ∃ m, m ≤ N ∧ RtOk m r
def CLQ (p many q : Nat) (ring : Bool) (f : Fl) (T : Store) : Prop := ∃ (rs : List (List I)) (l : MM.Env), f = .nx ([some (.ref p), some (.int (many : Nat)), some (.ref q), some (.bl ring)] ++ l) ∧ l.length = 2 ∧ rs.length = many ∧ (∀ r ∈ rs, RtOk' many r) ∧ PotAt T p ∧ T.get q = some (.lst (rs.map encR)) ∧ q < T.next
theorem code_loop {p many q : Nat} {ring : Bool} (h4 : many ≤ 4) (hqp : q ≠ p) : ∀ (n i : Nat) (rs : List (List I)) (o4 o5 : Option D) (S : Store), i + n = many → rs.length = i → (∀ r ∈ rs, RtOk' many r) → PotAt S p → S.get q = some (.lst (rs.map encR)) → q < S.next →
    OkD (mForL (.rng 0 many) (mGN 4) bodyC (n + 1) i [some (.ref p), some (.int (many : Nat)), some (.ref q), some (.bl ring), o4, o5] S) (CLQ p many q ring)
  | 0, i, rs, o4, o5, S, h, hl, hr, hp, hq, hlt => by
    rw [forL_done (by omega)]
    exact OkD.ok (Q := CLQ p many q ring) ⟨rs, [o4, o5], rfl, rfl, by omega, hr, hp, hq, hlt⟩
  | n + 1, i, rs, o4, o5, S, h, hl, hr, hp, hq, hlt => by
    rw [forL_turn (by omega)]
    have hd : (if i = 0 then 3 else 2) ≤ 3 := by split <;> omega
    have hm : (if ring = true then many else i) ≤ many := by split <;> omega
    obtain ⟨_, T, e1, r, hR, rfl, hpT, hT⟩ := (routine_ok (d := if i = 0 then 3 else 2) (m := if ring = true then many else i) (by omega) hd hp).ex
    have g2 := (hT.2 q hlt hqp).trans hq
    have hql := Nat.lt_of_lt_of_le hlt hT.1
    have ih := code_loop h4 hqp (ring := ring) n (i + 1) (rs ++ [r]) (some (.int (0 + ((i : Nat) : Int)))) o5 (T.set q (.lst (rs.map encR ++ [encR r]))) (by omega) (by rw [List.length_append, List.length_singleton, hl])
      (by
        intro x hx
        rcases List.mem_append.mp hx with hx | hx
        · exact hr x hx
        · rw [List.mem_singleton.mp hx]
          exact ⟨_, hm, hR⟩)
      (by
        obtain ⟨a, b, g, hb0, hb1, hlp⟩ := hpT
        exact ⟨a, b, by rw [Store.get_set, if_neg (Ne.symm hqp)]; exact g, hb0, hb1, hlp⟩)
      (by rw [Store.get_set, if_pos rfl, List.map_append]; rfl) hql
    have hb : bodyC [some (.ref p), some (.int (many : Nat)), some (.ref q), some (.bl ring), some (.int (0 + ((i : Nat) : Int))), o5] S = .ok (.nx [some (.ref p), some (.int (many : Nat)), some (.ref q), some (.bl ring), some (.int (0 + ((i : Nat) : Int))), o5]) (T.set q (.lst (rs.map encR ++ [encR r]))) := by
      have hlen : (rs.map encR).length ≤ 16000000 := by rw [List.length_map]; omega
      have z0 : (0 : Int) + ((i : Nat) : Int) = ((i : Nat) : Int) := Int.zero_add _
      have z1 : (((i : Nat) : Int) == 0) = decide (i = 0) := by
        rw [Bool.eq_iff_iff, beq_iff_eq, decide_eq_true_eq]
        omega
      clear ih hpT hT hR hp hr hd hm h
      unfold bodyC
      by_cases c : i = 0
      · have c1 := decide_eq_true c
        rw [if_pos c] at e1
        cases ring
        · replace e1 : m_L_law_routine [.ref p, .int 3, .int (i : Nat)] S = .ok (encR r) T := e1
          clear c hl
          walk_at "m"
        · replace e1 : m_L_law_routine [.ref p, .int 3, .int (many : Nat)] S = .ok (encR r) T := e1
          clear c hl
          walk_at "m"
      · have c1 := decide_eq_false c
        rw [if_neg c] at e1
        cases ring
        · replace e1 : m_L_law_routine [.ref p, .int 2, .int (i : Nat)] S = .ok (encR r) T := e1
          clear c hl
          walk_at "m"
        · replace e1 : m_L_law_routine [.ref p, .int 2, .int (many : Nat)] S = .ok (encR r) T := e1
          clear c hl
          walk_at "m"
    show OkD ((bodyC [some (.ref p), some (.int (many : Nat)), some (.ref q), some (.bl ring), some (.int (0 + ((i : Nat) : Int))), o5] S).bind (nextK _)) _
    rw [hb, R.bind_ok]
    exact ih
def CodeQ (p : Nat) (d : D) (T : Store) : Prop := ∃ rs start, d = codeD start rs ∧ KGood rs ∧ start < rs.length ∧ PotAt T p ∧ rs.length ≤ 4 ∧ ∀ r ∈ rs, r.length ≤ 94
theorem good_of {rs : List (List I)} (hl : rs.length ≤ 4) (h : ∀ r ∈ rs, RtOk' rs.length r) : KGood rs ∧ ∀ r ∈ rs, r.length ≤ 94 := by
  refine ⟨⟨by omega, fun r hr => ?_⟩, fun r hr => ?_⟩
  · obtain ⟨m, hm, hR⟩ := h r hr
    exact stand_rt hR hm
  · obtain ⟨m, hm, e, hw, hle, rfl⟩ := h r hr
    rw [List.length_append, lay_len]
    simp
    omega
theorem code_drawn {S : Store} {p : Nat} (hp : PotAt S p) : OkD (m_L_law_code [.ref p] S) (CodeQ p) := by
  have hB : b_L_law_code = mSeq (mPar 1 2 (mOp opAdd (mC (.int (1))) (mCall m_L_law_draw (mCons (mVar 0) (mCons (mC (.int (4))) mNil)))) (mNew (mFits mNil)))
    (mSeq (mAsg (mOp opEq (mCall m_L_law_draw (mCons (mVar 0) (mCons (mC (.int (3))) mNil))) (mC (.int (0)))) (mGN 3))
    (mSeq (mFor (mRng1 (mVar 1)) (mGN 4) bodyC)
    (mSeq (mAsg (mIf (mB (mVar 3)) (mCall m_L_law_draw (mCons (mVar 0) (mCons (mVar 1) mNil))) (mOp opSub (mVar 1) (mC (.int (1))))) (mGN 5))
    (mRet (mTup (mCons (mC (.str "code")) (mCons (mVar 5) (mCons (mCall bTup (mCons (mVar 2) mNil)) mNil)))))))) := rfl
  obtain ⟨_, T1, e1, k1, rfl, hk1, hp1, hT1⟩ := (draw_ok (n := 4) hp (by omega) (by omega)).ex
  replace e1 : m_L_law_draw [.ref p, .int 4] S = .ok (.int (k1 : Nat)) T1 := e1
  obtain ⟨_, T2, e2, k2, rfl, hk2, hp2, hT2⟩ := (draw_ok (n := 3) (hp1.push (.lst [])) (by omega) (by omega)).ex
  replace e2 : m_L_law_draw [.ref p, .int 3] (T1.push (.lst [])) = .ok (.int (k2 : Nat)) T2 := e2
  have hp1lt : p < T1.next := by obtain ⟨_, _, _, _, _, h⟩ := hp1; exact h
  have hqp : T1.next ≠ p := by omega
  have hq2 : T2.get T1.next = some (.lst (([] : List (List I)).map encR)) := by rw [hT2.2 T1.next (Nat.lt_succ_self _) hqp, Store.get_push, if_pos rfl]; rfl
  have hlt2 : T1.next < T2.next := Nat.lt_of_lt_of_le (Nat.lt_succ_self _) hT2.1
  have hloop := code_loop (p := p) (many := k1 + 1) (q := T1.next) (ring := (((k2 : Nat) : Int) == 0)) (by omega) hqp (k1 + 1) 0 [] none none T2 (by omega) rfl (fun r hr => nomatch hr) hp2 hq2 hlt2
  obtain ⟨_, T3, e3, rs, l, rfl, hl, hrs, hall, hp3, hq3, hlt3⟩ := hloop.ex
  have e3' : mFor (mRng1 (mVar 1)) (mGN 4) bodyC [some (.ref p), some (.int ((k1 + 1 : Nat) : Int)), some (.ref T1.next), some (.bl (((k2 : Nat) : Int) == 0)), none, none] T2 = .ok (.nx ([some (.ref p), some (.int ((k1 + 1 : Nat) : Int)), some (.ref T1.next), some (.bl (((k2 : Nat) : Int) == 0))] ++ l)) T3 := by
    rw [q_e_for]
    have e : mRng1 (mVar 1) [some (.ref p), some (.int ((k1 + 1 : Nat) : Int)), some (.ref T1.next), some (.bl (((k2 : Nat) : Int) == 0)), none, none] T2 = .ok (.rng 0 (k1 + 1)) T2 := by
      rw [q_e_rng1, q_e_v1, R.bind_ok]
      unfold asRng1
      dsimp only
      rw [if_pos (show smI ((k1 + 1 : Nat) : Int) = true from decide_eq_true (by omega)), Int.toNat_natCast]
    rw [e, R.bind_ok]
    exact e3
  match l, hl with
  | [o4, o5], _ =>
  obtain ⟨hg, h94⟩ := good_of (rs := rs) (by omega) (by rw [hrs]; exact hall)
  have z1 : (1 : Int) + ((k1 : Nat) : Int) = ((k1 + 1 : Nat) : Int) := by omega
  have z2 : ((k1 + 1 : Nat) : Int) - 1 = ((k1 : Nat) : Int) := by omega
  by_cases c : k2 = 0
  · have c1 : (((k2 : Nat) : Int) == 0) = true := by simp [c]
    obtain ⟨_, T4, e4, k4, rfl, hk4, hp4, hT4⟩ := (draw_ok (n := k1 + 1) hp3 (by omega) (by omega)).ex
    have g4 := (hT4.2 _ hlt3 hqp).trans hq3
    have fin : OkD (.ok (codeD k4 rs) T4) (CodeQ p) := OkD.ok (Q := CodeQ p) ⟨rs, k4, rfl, hg, by omega, hp4, by omega, h94⟩
    unfold codeD at fin
    rw [c1] at e3'
    replace e3' : mFor (mRng1 (mVar 1)) (mGN 4) bodyC [some (.ref p), some (.int ((k1 + 1 : Nat) : Int)), some (.ref T1.next), some (.bl true), none, none] T2 = .ok (.nx [some (.ref p), some (.int ((k1 + 1 : Nat) : Int)), some (.ref T1.next), some (.bl true), o4, o5]) T3 := e3'
    generalize CodeQ p = Q at fin ⊢
    unfold m_L_law_code
    rw [hB]
    clear hB hp hp1 hT1 hp2 hT2 hk1 hk2 hq2 hlt2 hloop e3 hrs hall hp3 hlt3 hg h94 c z2 hk4 hp4 hT4 hp1lt hq3
    walk_at "m"
  · have c1 : (((k2 : Nat) : Int) == 0) = false := by simp [c]
    have fin : OkD (.ok (codeD k1 rs) T3) (CodeQ p) := OkD.ok (Q := CodeQ p) ⟨rs, k1, rfl, hg, by omega, hp3, by omega, h94⟩
    unfold codeD at fin
    rw [c1] at e3'
    replace e3' : mFor (mRng1 (mVar 1)) (mGN 4) bodyC [some (.ref p), some (.int ((k1 + 1 : Nat) : Int)), some (.ref T1.next), some (.bl false), none, none] T2 = .ok (.nx [some (.ref p), some (.int ((k1 + 1 : Nat) : Int)), some (.ref T1.next), some (.bl false), o4, o5]) T3 := e3'
    generalize CodeQ p = Q at fin ⊢
    unfold m_L_law_code
    rw [hB]
    clear hB hp hp1 hT1 hp2 hT2 hk1 hk2 hq2 hlt2 hloop e3 hrs hall hp3 hlt3 hg h94 c hp1lt
    walk_at "m"
end PP

/-! k83, plain: the great codes. -/
namespace PP
open PySem L2 MM
local macro_rules
  | `(tactic| walk_at "m") => `(tactic| simp only [R.bind_ok, ofString_strOk, List.length_cons, List.length_nil, List.set_cons_zero, List.set_cons_succ, if_true, if_false, reduceIte, Bool.not_true, Bool.not_false, List.any_cons, List.any_nil, List.all_cons, List.all_nil, Bool.or_true, Bool.or_false, Bool.true_or, Bool.false_or, Bool.and_true, Bool.true_and, Bool.false_and, Bool.and_false, String.reduceEq, String.reduceBEq, decide_true, decide_false, Store.get_set, Store.get_push, Store.next_set, Store.next_push, fitsN, valD_put_same, List.lookup_cons, List.lookup_nil, List.mem_cons, List.not_mem_nil, or_false, putD, Option.isSome_some, Option.isSome_none, Nat.reduceSub, Int.cast_ofNat_Int, Nat.reduceLT, Nat.reduceAdd, Nat.reduceLeDiff, Nat.reduceEqDiff, Int.reduceNeg, List.replicate, Bool.false_eq_true, reduceCtorEq, beq_self_eq_true, ne_eq, not_true_eq_false, not_false_eq_true, List.append_nil, List.nil_append, List.cons_append, and_true, true_and, Int.reduceEq, Int.reduceBEq, Int.reduceLT, Int.reduceLE, q_k_drop, q_k_ret, q_k_ifs, q_k_asg2, q_k_asg, q_k_par2, q_k_par, q_k_keep, q_k_gsub2, q_k_gsub, q_k_gcons, q_k_op, q_k_and, q_k_or, q_k_not, q_k_andE2, q_k_andE, q_k_orE2, q_k_orE, q_k_notE2, q_k_notE, q_k_if, q_k_cons2, q_k_cons, q_k_tup, q_k_fits, q_k_new, q_k_meth3, q_k_meth2, q_k_meth, q_k_make2, q_k_make, q_k_bm, q_k_gfld, q_k_chain4, q_k_chain3, q_k_chain2, q_k_chain, q_k_sl3, q_k_sl2, q_k_sl, q_k_rng2, q_e_seq, q_e_seqK, q_e_seqKr, q_e_def, q_e_end, q_e_endr, q_e_drop, q_e_ret, q_e_ifs, q_e_asg, q_e_next, q_e_par, q_e_gn, q_e_gsub, q_e_gnil, q_e_gcons, q_e_gt, q_e_c, q_e_op, q_e_un, q_e_b, q_e_asB, q_e_and, q_e_or, q_e_not, q_e_andE, q_e_orE, q_e_notE, q_e_if, q_e_nil, q_e_cons, q_e_tup, q_e_fits, q_e_new, q_e_dnew, q_e_call, q_e_meth, q_e_make, q_e_bm, q_e_fld, q_e_gfld, q_e_chain, q_e_sl, q_e_no, q_e_some, q_e_asI, q_e_isB, q_e_yes, q_e_rng1, q_e_rng2, q_e_is, q_e_v0, q_e_v1, q_e_v2, q_e_v3, q_e_v4, q_e_v5, q_e_v6, q_e_v7, q_e_v8, q_e_v9, q_e_v10, q_e_mapc, q_e_mapn, q_e_appc, q_e_appn, q_e_rep0, q_e_rep1, q_e_rep2, q_e_rep3, q_e_rep4, q_e_rep5, q_e_rep6, q_e_rep7, q_e_rep8, q_e_rep9, q_ix_ref, q_ix_tup, q_ix_rl, q_ixO_l, q_ixO_di, q_ixO_ds, q_valR_some, q_atR_0, q_atR_1, q_atR_2, q_atR_3, q_atR_4, q_atR_last, q_atR_last1, q_atR_last3, q_atR_last4, q_atR_last2, q_set_ref, q_putR_0, q_putR_1, q_putR_2, q_putR_3, q_setO_l, q_setLR_some, q_setO_di, q_setO_ds, q_getF_ref, q_getFO_i, q_setF_ref, q_setFO_i, q_asIns_ref, q_asInsO_i, q_isLst_ref, q_isLstO_l, q_app_ref, q_appO_l, q_lts, q_pop_ref, q_popO_l, q_popO_1, q_len_ref, q_lenO_l, q_lenO_d, q_len_tup, q_len_rl, q_in_ref, q_inO_di, q_inO_ds, q_inO_l, q_in_tup, q_tup_ref, q_tupO_l, q_add_ref, q_catO_l, q_add_int, q_add_tup, q_sub_int, q_lt_int, q_le_int, q_gt_int, q_ge_int, q_neg_int, q_mul_int, q_mod_int, q_fdiv_int, q_abs_int, q_int_int, q_int_bl, q_max_int, q_min_int, q_divmod_int, q_is_non, q_isnot_non, q_is_bl, q_isnot_bl, q_str_inj, q_str_beq, q_eq_str, q_ne_str, q_eq_int, q_ne_int, q_eq_ref, q_ne_ref, q_eqO_i, q_eqO_n, q_emp, q_emp0, q_nx1, q_nx2, q_nx3, q_nx4, q_nx5, q_nx6, q_nx7, q_nx8, q_nx9, q_nxa, q_nxb, q_nxc, q_nxd, q_ne_tup2, q_mul_ref, q_mulO_1, q_ext_ref, q_extO_l, q_flat_int, q_flat_str, q_flat_bl, q_flat_non, q_eqF_int, q_eqF_str, q_isB_int, q_isB_str, q_isB_bl, q_isB_tup, q_isB_rl, q_isB_non, q_isB_ref, q_isBO_l, q_isBO_d, q_isNon_ref, q_isNon_int, q_isNon_str, q_isNon_tup, q_isNon_bl, q_isNon_non, *])
def gR (i : Nat) (w : Op) : List I := [.call i, .push (1 + ((i : Nat) : Int).fmod 3), .op w, .ret]
theorem gR_stand {N i : Nat} {w : Op} (h : i < N) : Stand N (gR i w) (fun j => if j = 0 then (0, 0) else if j = 1 then (1, 0) else if j = 2 then (2, 0) else (1, 0)) := by
  refine ⟨rfl, by simp [gR], ?_, ?_, ?_⟩
  · intro j ins hj
    rcases j with _ | _ | _ | _ | j
    · cases hj
      exact ⟨_, rfl, fun e he => by rw [List.mem_singleton.mp he]; exact ⟨by simp [gR], rfl⟩⟩
    · cases hj
      exact ⟨_, rfl, fun e he => by rw [List.mem_singleton.mp he]; exact ⟨by simp [gR], rfl⟩⟩
    · cases hj
      exact ⟨_, rfl, fun e he => by rw [List.mem_singleton.mp he]; exact ⟨by simp [gR], rfl⟩⟩
    · cases hj
      exact ⟨[], rfl, fun e he => nomatch he⟩
    · cases hj
  · intro j n hj
    rcases j with _ | _ | _ | _ | j
    · cases hj; exact h
    · cases hj
    · cases hj
    · cases hj
    · cases hj
  · intro j v hj
    rcases j with _ | _ | _ | _ | j
    · cases hj
    · cases hj
      rw [Int.fmod_eq_emod_of_nonneg _ (by omega)]
      unfold B
      omega
    · cases hj
    · cases hj
    · cases hj
def GLQ (p q cnt : Nat) (r0 : List I) (o1 o2 : D) (f : Fl) (T : Store) : Prop := ∃ (rs : List (List I)) (l : MM.Env), f = .nx ([some (.ref p), some o1, some o2, some (.ref q)] ++ l) ∧ rs.length = cnt ∧ (∀ r ∈ rs, ∃ i w, i < cnt ∧ r = gR i w) ∧ PotAt T p ∧ T.get q = some (.lst ((r0 :: rs).map encR)) ∧ q < T.next
theorem great_loop {p q cnt : Nat} {r0 : List I} {o1 o2 : D} (h4 : cnt ≤ 399) (hqp : q ≠ p) : ∀ (n i : Nat) (rs : List (List I)) (o4 o5 : Option D) (S : Store), i + n = cnt → rs.length = i → (∀ r ∈ rs, ∃ i w, i < cnt ∧ r = gR i w) → PotAt S p → S.get q = some (.lst ((r0 :: rs).map encR)) → q < S.next →
    OkD (mForL (.rng 0 cnt) (mGN 4) bodyG (n + 1) i [some (.ref p), some o1, some o2, some (.ref q), o4, o5] S) (GLQ p q cnt r0 o1 o2)
  | 0, i, rs, o4, o5, S, h, hl, hr, hp, hq, hlt => by
    rw [forL_done (by omega)]
    exact OkD.ok (Q := GLQ p q cnt r0 o1 o2) ⟨rs, [o4, o5], rfl, by omega, hr, hp, hq, hlt⟩
  | n + 1, i, rs, o4, o5, S, h, hl, hr, hp, hq, hlt => by
    rw [forL_turn (by omega)]
    obtain ⟨d, T, e1, hd, hpT, hT⟩ := (pick_new (ds := [.tup [.str (Str.ofString "add")], .tup [.str (Str.ofString "less")], .tup [.str (Str.ofString "add")]]) hp (by simp) (by simp)).ex
    obtain ⟨w, rfl⟩ : ∃ w : Op, d = .tup [.str (Str.ofString w.w)] := by
      simp only [List.mem_cons, List.not_mem_nil, or_false] at hd
      rcases hd with rfl | rfl | rfl
      · exact ⟨.add, rfl⟩
      · exact ⟨.less, rfl⟩
      · exact ⟨.add, rfl⟩
    have g2 := (hT.2 q hlt hqp).trans hq
    have hql := Nat.lt_of_lt_of_le hlt hT.1
    have ih := great_loop h4 hqp (o1 := o1) (o2 := o2) (r0 := r0) n (i + 1) (rs ++ [gR i w]) (some (.int (0 + ((i : Nat) : Int)))) (some (.tup [.str (Str.ofString w.w)])) (T.set q (.lst ((r0 :: rs).map encR ++ [encR (gR i w)]))) (by omega) (by rw [List.length_append, List.length_singleton, hl])
      (by
        intro x hx
        rcases List.mem_append.mp hx with hx | hx
        · exact hr x hx
        · rw [List.mem_singleton.mp hx]
          exact ⟨i, w, by omega, rfl⟩)
      (by
        obtain ⟨a, b, g, hb0, hb1, hlp⟩ := hpT
        exact ⟨a, b, by rw [Store.get_set, if_neg (Ne.symm hqp)]; exact g, hb0, hb1, hlp⟩)
      (by rw [Store.get_set, if_pos rfl, ← List.cons_append, List.map_append]; rfl) hql
    have hb : bodyG [some (.ref p), some o1, some o2, some (.ref q), some (.int (0 + ((i : Nat) : Int))), o5] S = .ok (.nx [some (.ref p), some o1, some o2, some (.ref q), some (.int (0 + ((i : Nat) : Int))), some (.tup [.str (Str.ofString w.w)])]) (T.set q (.lst ((r0 :: rs).map encR ++ [encR (gR i w)]))) := by
      have hlen : ((r0 :: rs).map encR).length ≤ 16000000 := by rw [List.length_map, List.length_cons]; omega
      have z0 : (0 : Int) + ((i : Nat) : Int) = ((i : Nat) : Int) := Int.zero_add _
      clear ih hpT hT hp hr hd h hl
      unfold bodyG
      simp only [gR, I.enc, encR, List.map_cons (f := I.enc), List.map_nil (f := I.enc)]
      generalize ((r0 :: rs).map fun r => D.tup (r.map I.enc)) = L at *
      walk_at "m"
    show OkD ((bodyG [some (.ref p), some o1, some o2, some (.ref q), some (.int (0 + ((i : Nat) : Int))), o5] S).bind (nextK _)) _
    rw [hb, R.bind_ok]
    exact ih
def GreatQ (p : Nat) (d : D) (T : Store) : Prop := ∃ rs start, d = codeD start rs ∧ KGood rs ∧ start < rs.length ∧ PotAt T p
theorem great_drawn {S : Store} {p : Nat} (hp : PotAt S p) : OkD (m_L_law_great [.ref p] S) (GreatQ p) := by
  have hB : b_L_law_great = (mSeq (mAsg (mCall m_L_law_pick (mCons (mVar 0) (mCons (mNew (mFits (mCons (mTup (mCons (mC (.str "add")) (mCons (mTup (mCons (mC (.str "so far")) mNil)) (mCons (mTup (mCons (mC (.str "turn")) mNil)) mNil)))) (mCons (mTup (mCons (mC (.str "left")) (mCons (mTup (mCons (mC (.str "times")) (mCons (mTup (mCons (mC (.str "so far")) mNil)) (mCons (mC (.int (7))) mNil)))) (mCons (mC (.int (999983))) mNil)))) (mCons (mTup (mCons (mC (.str "less")) (mCons (mTup (mCons (mC (.str "turn")) mNil)) (mCons (mTup (mCons (mC (.str "so far")) mNil)) mNil)))) mNil))))) mNil))) (mGN 1))
  (mSeq (mAsg (mTup (mCons (mC (.str "loop")) (mCons (mCall m_L_law_pick (mCons (mVar 0) (mCons (mNew (mFits (mCons (mC (.int (1))) (mCons (mC (.int (30))) (mCons (mC (.int (60))) (mCons (mC (.int (200))) (mCons (mC (.int (201))) mNil))))))) mNil))) (mCons (mTup (mCons (mC (.str "so far")) mNil)) (mCons (mVar 1) mNil))))) (mGN 2))
  (mSeq (mAsg (mNew (mFits (mCons (mCall bTup (mCons (mOp opAdd (mCall (M_L_law_laid 12) (mCons (mTup (mCons (mC (.str "loop")) (mCons (mCall m_L_law_pick (mCons (mVar 0) (mCons (mNew (mFits (mCons (mC (.int (200))) (mCons (mC (.int (150))) (mCons (mC (.int (199))) (mCons (mC (.int (40))) mNil)))))) mNil))) (mCons (mC (.int (1))) (mCons (mVar 2) mNil))))) (mCons (mC (.int (0))) mNil))) (mNew (mFits (mCons (mTup (mCons (mC (.str "return")) mNil)) mNil)))) mNil)) mNil))) (mGN 3))
  (mSeq (mFor (mRng1 (mCall m_L_law_pick (mCons (mVar 0) (mCons (mNew (mFits (mCons (mC (.int (0))) (mCons (mC (.int (3))) (mCons (mC (.int (399))) (mCons (mC (.int (200))) mNil)))))) mNil)))) (mGN 4) bodyG)
  (mRet (mTup (mCons (mC (.str "code")) (mCons (mOp opSub (mCall bLen (mCons (mVar 3) mNil)) (mC (.int (1)))) (mCons (mCall bTup (mCons (mVar 3) mNil)) mNil))))))))) := rfl
  obtain ⟨s, T1, e1, hs, hp1, hT1⟩ := (pick_new (ds := [.tup [.str (Str.ofString "add"), .tup [.str (Str.ofString "so far")], .tup [.str (Str.ofString "turn")]], .tup [.str (Str.ofString "left"), .tup [.str (Str.ofString "times"), .tup [.str (Str.ofString "so far")], .int 7], .int 999983], .tup [.str (Str.ofString "less"), .tup [.str (Str.ofString "turn")], .tup [.str (Str.ofString "so far")]]]) hp (by simp) (by simp)).ex
  obtain ⟨sx, rfl, ws, ls, ds⟩ : ∃ sx : Xp, s = sx.enc ∧ sx.wf 0 2 ∧ sx.len ≤ 5 ∧ sx.dep ≤ 2 := by
    simp only [List.mem_cons, List.not_mem_nil, or_false] at hs
    rcases hs with rfl | rfl | rfl
    · exact ⟨.op .add .soFar .turn, rfl, ⟨Nat.succ_pos _, Nat.succ_pos _⟩, by decide, by decide⟩
    · exact ⟨.op .left (.op .times .soFar (.num 7)) (.num 999983), rfl, ⟨⟨Nat.succ_pos _, by simp only [Xp.wf]; unfold B; omega⟩, by simp only [Xp.wf]; unfold B; omega⟩, by decide, by decide⟩
    · exact ⟨.op .less .turn .soFar, rfl, ⟨Nat.succ_pos _, Nat.succ_pos _⟩, by decide, by decide⟩
  obtain ⟨v1, T2, e2, hv1, hp2, hT2⟩ := (pick_new (ds := [.int 1, .int 30, .int 60, .int 200, .int 201]) hp1 (by simp) (by simp)).ex
  obtain ⟨v1, rfl, hb1⟩ : ∃ v, v1 = .int v ∧ B v := by
    simp only [List.mem_cons, List.not_mem_nil, or_false] at hv1
    rcases hv1 with rfl | rfl | rfl | rfl | rfl <;> exact ⟨_, rfl, by unfold B; omega⟩
  obtain ⟨v2, T3, e3, hv2, hp3, hT3⟩ := (pick_new (ds := [.int 200, .int 150, .int 199, .int 40]) hp2 (by simp) (by simp)).ex
  obtain ⟨v2, rfl, hb2⟩ : ∃ v, v2 = .int v ∧ B v := by
    simp only [List.mem_cons, List.not_mem_nil, or_false] at hv2
    rcases hv2 with rfl | rfl | rfl | rfl <;> exact ⟨_, rfl, by unfold B; omega⟩
  have hX : ∃ X : Xp, X.enc = .tup [.str (Str.ofString "loop"), .int v2, .int 1, .tup [.str (Str.ofString "loop"), .int v1, .tup [.str (Str.ofString "so far")], sx.enc]] ∧ X.wf 0 0 ∧ X.len ≤ 20 ∧ X.dep ≤ 6 :=
    ⟨.loop (.num v2) (.num 1) (.loop (.num v1) .soFar sx), rfl, ⟨hb2, by simp only [Xp.wf]; unfold B; omega, hb1, Nat.succ_pos _, ws⟩, by simp only [Xp.len]; omega, by simp only [Xp.dep]; omega⟩
  obtain ⟨X, hXe, hXw, hXl, hXd⟩ := hX
  obtain ⟨_, U, e4, q0, rfl, g4, f4, m4, k4⟩ := (laid_ok 12 X 0 (by omega) (by omega) T3).ex
  replace e4 : M_L_law_laid 12 [X.enc, .int 0] T3 = .ok (.ref q0) U := e4
  rw [hXe] at e4
  have n4 := nes m4
  have hl4 : ((lay X 0).map I.enc).length = X.len := by rw [List.length_map, lay_len]
  have b1 : X.len + 1 ≤ 16000000 := by omega
  have hpU := hp3.keepA k4
  have hpUlt : p < U.next := by obtain ⟨_, _, _, _, _, h⟩ := hpU; exact h
  have hpq := ((hpU.push (.lst [.tup [.str (Str.ofString "return")]])).push (.lst ((lay X 0).map I.enc ++ [.tup [.str (Str.ofString "return")]]))).push (.lst [.tup ((lay X 0).map I.enc ++ [.tup [.str (Str.ofString "return")]])])
  obtain ⟨c, V, e5, hc, hpV, hV⟩ := (pick_new (ds := [.int 0, .int 3, .int 399, .int 200]) hpq (by simp) (by simp)).ex
  obtain ⟨c, rfl, hc4⟩ : ∃ k : Nat, c = .int (k : Nat) ∧ k ≤ 399 := by
    simp only [List.mem_cons, List.not_mem_nil, or_false] at hc
    rcases hc with rfl | rfl | rfl | rfl
    · exact ⟨0, rfl, by omega⟩
    · exact ⟨3, rfl, by omega⟩
    · exact ⟨399, rfl, by omega⟩
    · exact ⟨200, rfl, by omega⟩
  simp only [Store.next_push] at e5 hV
  have hqp : U.next + 1 + 1 ≠ p := by omega
  have hr0 : encR (lay X 0 ++ [.ret]) = .tup ((lay X 0).map I.enc ++ [.tup [.str (Str.ofString "return")]]) := by simp only [encR, List.map_append, List.map_cons, List.map_nil, I.enc]
  have hq5 : V.get (U.next + 1 + 1) = some (.lst (([lay X 0 ++ [I.ret]] : List (List I)).map encR)) := by
    rw [hV.2 (U.next + 1 + 1) (Nat.lt_succ_self _) hqp, Store.get_push, if_pos (by rw [Store.next_push, Store.next_push]), List.map_cons, hr0]
    rfl
  have hlt5 : U.next + 1 + 1 < V.next := Nat.lt_of_lt_of_le (Nat.lt_succ_self _) hV.1
  have hloop := great_loop (p := p) (q := U.next + 1 + 1) (cnt := c) (r0 := lay X 0 ++ [I.ret]) (o1 := sx.enc) (o2 := .tup [.str (Str.ofString "loop"), .int v1, .tup [.str (Str.ofString "so far")], sx.enc]) hc4 hqp c 0 [] none none V (by omega) rfl (fun r hr => nomatch hr) hpV hq5 hlt5
  obtain ⟨_, W, e6, rs, l, rfl, hrs, hall, hp6, hq6, hlt6⟩ := hloop.ex
  have hgood : KGood ((lay X 0 ++ [I.ret]) :: rs) := by
    refine ⟨by rw [List.length_cons]; omega, fun r hr => ?_⟩
    rcases List.mem_cons.mp hr with rfl | hr
    · exact ⟨by rw [List.length_append, lay_len]; simp; omega, _, stand_lay (Nat.zero_le _) hXw⟩
    · obtain ⟨i, w, hi, rfl⟩ := hall r hr
      exact ⟨by simp [gR], _, gR_stand (by rw [List.length_cons]; omega)⟩
  have fin : OkD (.ok (codeD c ((lay X 0 ++ [I.ret]) :: rs)) W) (GreatQ p) := OkD.ok (Q := GreatQ p) ⟨_, c, rfl, hgood, by rw [List.length_cons]; omega, hp6⟩
  unfold codeD at fin
  have hsm : ∀ T, asRng1 (.int (c : Nat)) T = .ok (.rng 0 c) T := by
    intro T
    unfold asRng1
    dsimp only
    rw [if_pos (show smI ((c : Nat) : Int) = true from decide_eq_true (by omega)), Int.toNat_natCast]
  have e6' : mForL (.rng 0 c) (mGN 4) bodyG (IT.fuel (.rng 0 c) V) 0 [some (.ref p), some sx.enc, some (.tup [.str (Str.ofString "loop"), .int v1, .tup [.str (Str.ofString "so far")], sx.enc]), some (.ref (U.next + 1 + 1)), none, none] V = .ok (.nx (some (.ref p) :: some sx.enc :: some (.tup [.str (Str.ofString "loop"), .int v1, .tup [.str (Str.ofString "so far")], sx.enc]) :: some (.ref (U.next + 1 + 1)) :: l)) W := e6
  have hlen6 : (((lay X 0 ++ [I.ret]) :: rs).map encR).length = c + 1 := by rw [List.length_map, List.length_cons, hrs]
  have hsub : ((c + 1 : Nat) : Int) - 1 = ((c : Nat) : Int) := by omega
  have hfor := @q_e_for
  generalize GreatQ p = Q at fin ⊢
  generalize (((lay X 0 ++ [I.ret]) :: rs).map encR) = L6 at *
  unfold m_L_law_great
  rw [hB]
  clear hB hp hp1 hT1 hp2 hT2 hp3 hT3 hloop e6 hrs hall hp6 hlt6 hgood hq5 hlt5 hpV hV hpq hpU hpUlt hc4 hr0 hXe hXw hXl hXd f4 m4 k4 hs hv1 hv2 hc ws ls ds hb1 hb2 hqp
  walk_at "m"
end PP

/-! k83, plain: the law. -/
namespace PP
open PySem L2 MM
local macro_rules
  | `(tactic| walk_at "m") => `(tactic| simp only [R.bind_ok, ofString_strOk, List.length_cons, List.length_nil, List.set_cons_zero, List.set_cons_succ, if_true, if_false, reduceIte, Bool.not_true, Bool.not_false, List.any_cons, List.any_nil, List.all_cons, List.all_nil, Bool.or_true, Bool.or_false, Bool.true_or, Bool.false_or, Bool.and_true, Bool.true_and, Bool.false_and, Bool.and_false, String.reduceEq, String.reduceBEq, decide_true, decide_false, Store.get_set, Store.get_push, Store.next_set, Store.next_push, fitsN, valD_put_same, List.lookup_cons, List.lookup_nil, List.mem_cons, List.not_mem_nil, or_false, putD, Option.isSome_some, Option.isSome_none, Nat.reduceSub, Int.cast_ofNat_Int, Nat.reduceLT, Nat.reduceAdd, Nat.reduceLeDiff, Nat.reduceEqDiff, Int.reduceNeg, List.replicate, Bool.false_eq_true, reduceCtorEq, beq_self_eq_true, ne_eq, not_true_eq_false, not_false_eq_true, List.append_nil, List.nil_append, List.cons_append, and_true, true_and, Int.reduceEq, Int.reduceBEq, Int.reduceLT, Int.reduceLE, q_k_drop, q_k_ret, q_k_ifs, q_k_asg2, q_k_asg, q_k_par2, q_k_par, q_k_keep, q_k_gsub2, q_k_gsub, q_k_gcons, q_k_op, q_k_and, q_k_or, q_k_not, q_k_andE2, q_k_andE, q_k_orE2, q_k_orE, q_k_notE2, q_k_notE, q_k_if, q_k_cons2, q_k_cons, q_k_tup, q_k_fits, q_k_new, q_k_meth3, q_k_meth2, q_k_meth, q_k_make2, q_k_make, q_k_bm, q_k_gfld, q_k_chain4, q_k_chain3, q_k_chain2, q_k_chain, q_k_sl3, q_k_sl2, q_k_sl, q_k_rng2, q_e_seq, q_e_seqK, q_e_seqKr, q_e_def, q_e_end, q_e_endr, q_e_drop, q_e_ret, q_e_ifs, q_e_asg, q_e_next, q_e_par, q_e_gn, q_e_gsub, q_e_gnil, q_e_gcons, q_e_gt, q_e_c, q_e_op, q_e_un, q_e_b, q_e_asB, q_e_and, q_e_or, q_e_not, q_e_andE, q_e_orE, q_e_notE, q_e_if, q_e_nil, q_e_cons, q_e_tup, q_e_fits, q_e_new, q_e_dnew, q_e_call, q_e_meth, q_e_make, q_e_bm, q_e_fld, q_e_gfld, q_e_chain, q_e_sl, q_e_no, q_e_some, q_e_asI, q_e_isB, q_e_yes, q_e_rng1, q_e_rng2, q_e_is, q_e_v0, q_e_v1, q_e_v2, q_e_v3, q_e_v4, q_e_v5, q_e_v6, q_e_v7, q_e_v8, q_e_v9, q_e_v10, q_e_mapc, q_e_mapn, q_e_appc, q_e_appn, q_e_rep0, q_e_rep1, q_e_rep2, q_e_rep3, q_e_rep4, q_e_rep5, q_e_rep6, q_e_rep7, q_e_rep8, q_e_rep9, q_ix_ref, q_ix_tup, q_ix_rl, q_ixO_l, q_ixO_di, q_ixO_ds, q_valR_some, q_atR_0, q_atR_1, q_atR_2, q_atR_3, q_atR_4, q_atR_last, q_atR_last1, q_atR_last3, q_atR_last4, q_atR_last2, q_set_ref, q_putR_0, q_putR_1, q_putR_2, q_putR_3, q_setO_l, q_setLR_some, q_setO_di, q_setO_ds, q_getF_ref, q_getFO_i, q_setF_ref, q_setFO_i, q_asIns_ref, q_asInsO_i, q_isLst_ref, q_isLstO_l, q_app_ref, q_appO_l, q_lts, q_pop_ref, q_popO_l, q_popO_1, q_len_ref, q_lenO_l, q_lenO_d, q_len_tup, q_len_rl, q_in_ref, q_inO_di, q_inO_ds, q_inO_l, q_in_tup, q_tup_ref, q_tupO_l, q_add_ref, q_catO_l, q_add_int, q_add_tup, q_sub_int, q_lt_int, q_le_int, q_gt_int, q_ge_int, q_neg_int, q_mul_int, q_mod_int, q_fdiv_int, q_abs_int, q_int_int, q_int_bl, q_max_int, q_min_int, q_divmod_int, q_is_non, q_isnot_non, q_is_bl, q_isnot_bl, q_str_inj, q_str_beq, q_eq_str, q_ne_str, q_eq_int, q_ne_int, q_eq_ref, q_ne_ref, q_eqO_i, q_eqO_n, q_emp, q_emp0, q_nx1, q_nx2, q_nx3, q_nx4, q_nx5, q_nx6, q_nx7, q_nx8, q_nx9, q_nxa, q_nxb, q_nxc, q_nxd, q_ne_tup2, q_mul_ref, q_mulO_1, q_ext_ref, q_extO_l, q_flat_int, q_flat_str, q_flat_bl, q_flat_non, q_eqF_int, q_eqF_str, q_isB_int, q_isB_str, q_isB_bl, q_isB_tup, q_isB_rl, q_isB_non, q_isB_ref, q_isBO_l, q_isBO_d, q_isNon_ref, q_isNon_int, q_isNon_str, q_isNon_tup, q_isNon_bl, q_isNon_non, *])
theorem sm_pl {d : D} (h : Sm d) : Pl 0 20 d := by
  rcases h with ⟨v, rfl, hv⟩ | ⟨w, hw, rfl⟩
  · exact pl_int hv
  · refine pl_word ?_
    simp only [List.mem_cons, List.not_mem_nil, or_false] at hw
    rcases hw with rfl | rfl | rfl | rfl | rfl | rfl | rfl <;> simp [words]
/-- the answer within n turns, from turn d on -/
theorem aRun_some {rs : List (List I)} (hg : KGood rs) : ∀ (n d i : Nat) (m : M) (ds : List D), KInv rs i m → aRun rs n d m = some ds → ∃ ds' k, ds = ds' ++ [.int ((d + k : Nat) : Int)] ∧ FinOk ds' ∧ k < n ∧ ∀ n', n' ≤ k → aRun rs n' d m = none
  | 0, d, i, m, ds, hI, h => by cases h
  | n + 1, d, i, ⟨kn, fs⟩, ds, hI, h => by
    have hI' := hI
    obtain ⟨kl, kb, f, rest, he, hf, hr, hll⟩ := hI'
    cases he
    obtain ⟨pos, at_, st, lp⟩ := f
    obtain ⟨r, ins, out, h1, h2, h3, h4⟩ := sound hg hI
    unfold aRun at h
    dsimp only at h
    rw [h1] at h
    dsimp only at h
    rw [h2] at h
    dsimp only at h
    rw [h3] at h
    cases out with
    | fin ds' =>
      cases h
      exact ⟨ds', 0, rfl, h4, Nat.succ_pos _, fun n' hn => by rw [Nat.le_zero.mp hn]; rfl⟩
    | on m' =>
      obtain ⟨ds', k, e1, e2, e3, e4⟩ := aRun_some hg n (d + 1) (i + 1) m' ds h4 h
      refine ⟨ds', k + 1, by rw [e1]; congr 4; omega, e2, by omega, fun n' hn => ?_⟩
      cases n' with
      | zero => rfl
      | succ n' =>
        unfold aRun
        dsimp only
        rw [h1]
        dsimp only
        rw [h2]
        dsimp only
        rw [h3]
        exact e4 n' (by omega)
theorem aRun_none {rs : List (List I)} (hg : KGood rs) : ∀ (n d i : Nat) (m : M), KInv rs i m → aRun rs n d m = none → ∀ n', n' ≤ n → aRun rs n' d m = none
  | 0, d, i, m, hI, h, n', hn => by rw [Nat.le_zero.mp hn]; rfl
  | n + 1, d, i, ⟨kn, fs⟩, hI, h, n', hn => by
    have hI' := hI
    obtain ⟨kl, kb, f, rest, he, hf, hr, hll⟩ := hI'
    cases he
    obtain ⟨pos, at_, st, lp⟩ := f
    obtain ⟨r, ins, out, h1, h2, h3, h4⟩ := sound hg hI
    unfold aRun at h
    dsimp only at h
    rw [h1] at h
    dsimp only at h
    rw [h2] at h
    dsimp only at h
    rw [h3] at h
    cases n' with
    | zero => rfl
    | succ n' =>
      cases out with
      | fin ds' => cases h
      | on m' =>
        unfold aRun
        dsimp only
        rw [h1]
        dsimp only
        rw [h2]
        dsimp only
        rw [h3]
        exact aRun_none hg n (d + 1) (i + 1) m' h4 h n' (by omega)
/-- a run's answer: its repr, its last part, the shorter runs -/
theorem res_ok {rs : List (List I)} (hg : KGood rs) {start most : Nat} (h : start < rs.length) (hm : most ≤ 60000) :
    ∃ xs t, resD most (aRun rs most 1 (m0 start)) = .tup (xs ++ [.int ((t : Nat) : Int)]) ∧ t ≤ most ∧ (∃ s : Str, PyData.strOk s = true ∧ ∀ S, bRepr [.tup (xs ++ [.int ((t : Nat) : Int)])] S = .ok (.str s) S) ∧ ∀ n, n < t → aRun rs n 1 (m0 start) = none := by
  have hI := inv0 hg h
  cases hr : aRun rs most 1 (m0 start) with
  | none =>
    refine ⟨[.str (Str.ofString "on")], most, rfl, Nat.le_refl _, ?_, fun n hn => aRun_none hg most 1 0 _ hI hr n (by omega)⟩
    exact repr_ok (pl_tup (n := 0) (c := 20) (by
      intro d hd
      simp only [List.cons_append, List.nil_append, List.mem_cons, List.not_mem_nil, or_false] at hd
      rcases hd with rfl | rfl
      · exact pl_word (by simp [words])
      · exact pl_int (by unfold B; omega))) (by omega) (by simp)
  | some ds =>
    obtain ⟨ds', k, rfl, hf, hk, hs⟩ := aRun_some hg most 1 0 _ ds hI hr
    refine ⟨ds', 1 + k, rfl, by omega, ?_, fun n hn => hs n (by omega)⟩
    exact repr_ok (pl_tup (n := 0) (c := 20) (by
      intro d hd
      rcases List.mem_append.mp hd with hd | hd
      · exact sm_pl (hf.2.2 d hd)
      · rw [List.mem_singleton.mp hd]
        exact pl_int (by unfold B; omega))) (by omega) (by have := hf.2.1; rw [List.length_append, List.length_singleton]; omega)
theorem ne_same {s : Str} (h : PyData.strOk s = true) (S : Store) : opNe (.str s) (.str s) S = .ok (.bl false) S := by
  unfold opNe dEq
  simp only [lenNe, toP, SeqAt.shaped, PyData.canLay0, PyData.depth, h, PyData.eqv, beq_self_eq_true]
  rfl
theorem eq_same {s : Str} (h : PyData.strOk s = true) (S : Store) : opEq (.str s) (.str s) S = .ok (.bl true) S := by
  unfold opEq dEq
  simp only [lenNe, toP, SeqAt.shaped, PyData.canLay0, PyData.depth, h, PyData.eqv, beq_self_eq_true]
  rfl
theorem pot_own {S : Store} {p : Nat} (h : PotAt S p) : ∃ a b : Int, Own S [(p, .lst [.int a, .int b])] ∧ 0 ≤ b ∧ b ≤ 2147483587 := by
  obtain ⟨a, b, g, h1, h2, h3⟩ := h
  exact ⟨a, b, ⟨by simp, fun c hc => by rw [List.mem_singleton.mp hc]; exact ⟨g, h3⟩⟩, h1, h2⟩
theorem own_pot {S : Store} {p : Nat} {a b : Int} {C : List (Nat × O)} (h : Own S ((p, .lst [.int a, .int b]) :: C)) (h1 : 0 ≤ b) (h2 : b ≤ 2147483587) : PotAt S p := ⟨a, b, h.hd.1, h1, h2, (h.2 _ List.mem_cons_self).2⟩
theorem great_right {S : Store} {p : Nat} (hp : PotAt S p) : OkD (m_L_law_great_right [.ref p] S) (fun d _ => d = .bl true) := by
  obtain ⟨_, T1, e1, rs, start, rfl, hg, hst, hp1⟩ := (great_drawn hp).ex
  obtain ⟨a, b, hO1, hb0, hb1⟩ := pot_own hp1
  obtain ⟨T2, e2, hO2⟩ := law_run hg hst (most := 60000) (Nat.le_refl _) T1 hO1
  obtain ⟨T3, e3, hO3⟩ := code_ok hg hst T2 hO2
  obtain ⟨T4, e4, hO4⟩ := run_ok hg hst (most := 60000) (Nat.le_refl _) T3 hO3
  obtain ⟨xs, t, hres, htm, ⟨s, hs, hrep⟩, hshort⟩ := res_ok hg hst (most := 60000) (Nat.le_refl _)
  obtain ⟨_, T5, e5, k, rfl, hk, hp5, hT5⟩ := (draw_ok (n := 2) (own_pot hO4 hb0 hb1) (by omega) (by omega)).ex
  obtain ⟨a5, b5, hO5, _, _⟩ := pot_own hp5
  have hmany : (if (t : Int) - 1 - (k : Int) > 0 then (t : Int) - 1 - (k : Int) else 0) = ((t - 1 - k : Nat) : Int) := by split <;> omega
  have hle : t - 1 - k ≤ 60000 := by omega
  obtain ⟨T6, e6, hO6⟩ := run_ok hg hst (most := t - 1 - k) hle T5 hO5
  have hon : aRun rs (t - 1 - k) 1 (m0 start) = none := by
    by_cases z : t = 0
    · subst z
      rw [show 0 - 1 - k = 0 by omega]
      rfl
    · exact hshort _ (by omega)
  rw [hon] at e6
  rw [hres] at e2 e4
  obtain ⟨xs6, t6, hres6, _, ⟨s6, hs6, hrep6⟩, _⟩ := res_ok hg hst (most := t - 1 - k) hle
  rw [hon] at hres6
  simp only [resD] at hres6 e6
  rw [← hres6] at hrep6
  replace e2 : m_L_law_run [codeD start rs, .int 60000] T1 = .ok (.tup (xs ++ [.int (t : Nat)])) T2 := e2
  replace e4 : m_run [codeD start rs, .int 60000] T3 = .ok (.tup (xs ++ [.int (t : Nat)])) T4 := e4
  replace e5 : m_L_law_draw [.ref p, .int 2] T4 = .ok (.int (k : Nat)) T5 := e5
  have n1 := ne_same hs
  have n2 := eq_same hs6
  have hsw : ∀ x y : D, permSw [x, y] = [y, x] := fun _ _ => rfl
  clear hp hg hst hp1 hO1 hb0 hb1 hO2 hO3 hO4 hres htm hs hshort hk hp5 hT5 hO5 hle hO6 hon hres6 hs6
  generalize codeD start rs = cd at *
  generalize hQ : (fun (d : D) (_ : Store) => d = D.bl true) = Q
  unfold m_L_law_great_right b_L_law_great_right m_is_code b_is_code
  walk_at "m"
  subst hQ
  exact OkD.ok (Q := fun (d : D) (_ : Store) => d = D.bl true) rfl
def bodyR : MS := (mIfS (mAndT (mB (mOp opLe (mVar 5) (mC (.int (150))))) (mB (mOp opNe (mCall bRepr (mCons (mCall (fun ds => m_run (permSw ds)) (mCons (mVar 5) (mCons (mVar 1) mNil))) mNil)) (mCall bRepr (mCons (mCall m_L_law_run (mCons (mVar 1) (mCons (mVar 5) mNil))) mNil))))) (mRet (mC (.bl false))) mNext)
theorem right_loop {rs : List (List I)} (hg : KGood rs) {start q p : Nat} (hst : start < rs.length) {cs due tk : D} {Z : List (Nat × O)} {ns : List Nat} : ∀ (n i : Nat) (o : Option D) (S : Store), i + n = ns.length → Own S ((q, .lst (ns.map fun k => D.int (k : Nat))) :: Z) →
    OkD (mForL (.lst q) (mGN 5) bodyR (n + 1) i [some (.ref p), some (codeD start rs), some cs, some due, some tk, o] S) (fun f T => (∃ o, f = Fl.nx [some (.ref p), some (codeD start rs), some cs, some due, some tk, o]) ∧ Own T ((q, .lst (ns.map fun k => D.int (k : Nat))) :: Z))
  | 0, i, o, S, h, hO => by
    conv => arg 1; unfold mForL
    have e : IT.at (.lst q) i S = some none := by
      unfold IT.at
      dsimp only
      rw [hO.hd.1]
      dsimp only
      rw [List.getElem?_eq_none (by rw [List.length_map]; omega)]
    rw [e]
    exact OkD.ok (Q := fun f T => (∃ o, f = Fl.nx [some (.ref p), some (codeD start rs), some cs, some due, some tk, o]) ∧ Own T ((q, .lst (ns.map fun k => D.int (k : Nat))) :: Z)) ⟨⟨o, rfl⟩, hO⟩
  | n + 1, i, o, S, h, hO => by
    conv => arg 1; unfold mForL
    have hi : i < ns.length := by omega
    have e : IT.at (.lst q) i S = some (some (.int ((ns[i] : Nat) : Int))) := by
      unfold IT.at
      dsimp only
      rw [hO.hd.1]
      dsimp only
      rw [List.getElem?_map, List.getElem?_eq_getElem hi]
      rfl
    rw [e]
    dsimp only
    generalize ns[i] = m
    have hb : ∃ T, bodyR [some (.ref p), some (codeD start rs), some cs, some due, some tk, some (.int (m : Nat))] S = .ok (.nx [some (.ref p), some (codeD start rs), some cs, some due, some tk, some (.int (m : Nat))]) T ∧ Own T ((q, .lst (ns.map fun k => D.int (k : Nat))) :: Z) := by
      by_cases c : m ≤ 150
      · obtain ⟨T1, e1, hO1⟩ := run_ok hg hst (most := m) (by omega) S hO
        obtain ⟨T2, e2, hO2⟩ := law_run hg hst (most := m) (by omega) T1 hO1
        obtain ⟨xs, t, hres, htm, ⟨s, hs, hrep⟩, hshort⟩ := res_ok hg hst (most := m) (by omega)
        have c1 : decide (((m : Nat) : Int) ≤ 150) = true := decide_eq_true (by omega)
        have n1 := ne_same hs
        have hsw : ∀ x y : D, permSw [x, y] = [y, x] := fun _ _ => rfl
        rw [hres] at e1 e2
        refine ⟨T2, ?_, hO2⟩
        clear hg hst h hO hi e hO1 hO2 hres htm hs hshort c
        generalize codeD start rs = cd at *
        unfold bodyR
        walk_at "m"
      · have c1 : decide (((m : Nat) : Int) ≤ 150) = false := decide_eq_false (by omega)
        refine ⟨S, ?_, hO⟩
        clear hg hst h hO hi e c
        generalize codeD start rs = cd at *
        unfold bodyR
        walk_at "m"
    obtain ⟨T, hb, hO'⟩ := hb
    show OkD ((bodyR [some (.ref p), some (codeD start rs), some cs, some due, some tk, some (.int (m : Nat))] S).bind _) _
    rw [hb, R.bind_ok]
    exact right_loop hg hst n (i + 1) _ T (by omega) hO'
end PP

/-! k83, plain: the law holds. -/
namespace PP
open PySem L2 MM
local macro_rules
  | `(tactic| walk_at "m") => `(tactic| simp only [R.bind_ok, ofString_strOk, List.length_cons, List.length_nil, List.set_cons_zero, List.set_cons_succ, if_true, if_false, reduceIte, Bool.not_true, Bool.not_false, List.any_cons, List.any_nil, List.all_cons, List.all_nil, Bool.or_true, Bool.or_false, Bool.true_or, Bool.false_or, Bool.and_true, Bool.true_and, Bool.false_and, Bool.and_false, String.reduceEq, String.reduceBEq, decide_true, decide_false, Store.get_set, Store.get_push, Store.next_set, Store.next_push, fitsN, valD_put_same, List.lookup_cons, List.lookup_nil, List.mem_cons, List.not_mem_nil, or_false, putD, Option.isSome_some, Option.isSome_none, Nat.reduceSub, Int.cast_ofNat_Int, Nat.reduceLT, Nat.reduceAdd, Nat.reduceLeDiff, Nat.reduceEqDiff, Int.reduceNeg, List.replicate, Bool.false_eq_true, reduceCtorEq, beq_self_eq_true, ne_eq, not_true_eq_false, not_false_eq_true, List.append_nil, List.nil_append, List.cons_append, and_true, true_and, Int.reduceEq, Int.reduceBEq, Int.reduceLT, Int.reduceLE, q_k_drop, q_k_ret, q_k_ifs, q_k_asg2, q_k_asg, q_k_par2, q_k_par, q_k_keep, q_k_gsub2, q_k_gsub, q_k_gcons, q_k_op, q_k_and, q_k_or, q_k_not, q_k_andE2, q_k_andE, q_k_orE2, q_k_orE, q_k_notE2, q_k_notE, q_k_if, q_k_cons2, q_k_cons, q_k_tup, q_k_fits, q_k_new, q_k_meth3, q_k_meth2, q_k_meth, q_k_make2, q_k_make, q_k_bm, q_k_gfld, q_k_chain4, q_k_chain3, q_k_chain2, q_k_chain, q_k_sl3, q_k_sl2, q_k_sl, q_k_rng2, q_e_seq, q_e_seqK, q_e_seqKr, q_e_def, q_e_end, q_e_endr, q_e_drop, q_e_ret, q_e_ifs, q_e_asg, q_e_next, q_e_par, q_e_gn, q_e_gsub, q_e_gnil, q_e_gcons, q_e_gt, q_e_c, q_e_op, q_e_un, q_e_b, q_e_asB, q_e_and, q_e_or, q_e_not, q_e_andE, q_e_orE, q_e_notE, q_e_if, q_e_nil, q_e_cons, q_e_tup, q_e_fits, q_e_new, q_e_dnew, q_e_call, q_e_meth, q_e_make, q_e_bm, q_e_fld, q_e_gfld, q_e_chain, q_e_sl, q_e_no, q_e_some, q_e_asI, q_e_isB, q_e_yes, q_e_rng1, q_e_rng2, q_e_is, q_e_v0, q_e_v1, q_e_v2, q_e_v3, q_e_v4, q_e_v5, q_e_v6, q_e_v7, q_e_v8, q_e_v9, q_e_v10, q_e_mapc, q_e_mapn, q_e_appc, q_e_appn, q_e_rep0, q_e_rep1, q_e_rep2, q_e_rep3, q_e_rep4, q_e_rep5, q_e_rep6, q_e_rep7, q_e_rep8, q_e_rep9, q_ix_ref, q_ix_tup, q_ix_rl, q_ixO_l, q_ixO_di, q_ixO_ds, q_valR_some, q_atR_0, q_atR_1, q_atR_2, q_atR_3, q_atR_4, q_atR_last, q_atR_last1, q_atR_last3, q_atR_last4, q_atR_last2, q_set_ref, q_putR_0, q_putR_1, q_putR_2, q_putR_3, q_setO_l, q_setLR_some, q_setO_di, q_setO_ds, q_getF_ref, q_getFO_i, q_setF_ref, q_setFO_i, q_asIns_ref, q_asInsO_i, q_isLst_ref, q_isLstO_l, q_app_ref, q_appO_l, q_lts, q_pop_ref, q_popO_l, q_popO_1, q_len_ref, q_lenO_l, q_lenO_d, q_len_tup, q_len_rl, q_in_ref, q_inO_di, q_inO_ds, q_inO_l, q_in_tup, q_tup_ref, q_tupO_l, q_add_ref, q_catO_l, q_add_int, q_add_tup, q_sub_int, q_lt_int, q_le_int, q_gt_int, q_ge_int, q_neg_int, q_mul_int, q_mod_int, q_fdiv_int, q_abs_int, q_int_int, q_int_bl, q_max_int, q_min_int, q_divmod_int, q_is_non, q_isnot_non, q_is_bl, q_isnot_bl, q_str_inj, q_str_beq, q_eq_str, q_ne_str, q_eq_int, q_ne_int, q_eq_ref, q_ne_ref, q_eqO_i, q_eqO_n, q_emp, q_emp0, q_nx1, q_nx2, q_nx3, q_nx4, q_nx5, q_nx6, q_nx7, q_nx8, q_nx9, q_nxa, q_nxb, q_nxc, q_nxd, q_ne_tup2, q_mul_ref, q_mulO_1, q_ext_ref, q_extO_l, q_flat_int, q_flat_str, q_flat_bl, q_flat_non, q_eqF_int, q_eqF_str, q_isB_int, q_isB_str, q_isB_bl, q_isB_tup, q_isB_rl, q_isB_non, q_isB_ref, q_isBO_l, q_isBO_d, q_isNon_ref, q_isNon_int, q_isNon_str, q_isNon_tup, q_isNon_bl, q_isNon_non, *])
theorem pl_ins {spots routines : Nat} (hs : spots ≤ 1000) (hr : routines ≤ 400) {ins : I} (h : InsOk spots routines ins) : Pl 1 47 ins.enc := by
  have one : ∀ w : String, w ∈ words → Pl 1 47 (.tup [.str (Str.ofString w)]) := fun w hw => (pl_tup (n := 0) (c := 20) (by
    intro d hd
    rw [List.mem_singleton.mp hd]
    exact pl_word hw)).up (Nat.le_refl _) (by simp)
  have two : ∀ (w : String) (v : Int), w ∈ words → B v → Pl 1 47 (.tup [.str (Str.ofString w), .int v]) := fun w v hw hv => (pl_tup (n := 0) (c := 20) (by
    intro d hd
    simp only [List.mem_cons, List.not_mem_nil, or_false] at hd
    rcases hd with rfl | rfl
    · exact pl_word hw
    · exact pl_int hv)).up (Nat.le_refl _) (by simp)
  have nat : ∀ n : Nat, n < 1000 → B (n : Nat) := fun n hn => by unfold B; omega
  cases ins with
  | push v => exact two _ _ (by simp [words]) h
  | call n => exact two _ _ (by simp [words]) (nat n (by simp only [InsOk] at h; omega))
  | «unless» n => exact two _ _ (by simp [words]) (nat n (by simp only [InsOk] at h; omega))
  | go n => exact two _ _ (by simp [words]) (nat n (by simp only [InsOk] at h; omega))
  | opn n => exact two _ _ (by simp [words]) (nat n (by simp only [InsOk] at h; omega))
  | close n => exact two _ _ (by simp [words]) (nat n (by simp only [InsOk] at h; omega))
  | op w => cases w <;> exact one _ (by simp [Op.w, words])
  | soFar => exact one _ (by simp [words])
  | turn => exact one _ (by simp [words])
  | ret => exact one _ (by simp [words])
theorem code_repr {rs : List (List I)} (hg : KGood rs) {start : Nat} (hst : start < rs.length) (h4 : rs.length ≤ 4) (h94 : ∀ r ∈ rs, r.length ≤ 94) : ∃ s : Str, PyData.strOk s = true ∧ ∀ S, bRepr [codeD start rs] S = .ok (.str s) S := by
  have hr : ∀ d ∈ rs.map encR, Pl 2 5000 d := by
    intro d hd
    obtain ⟨r, hr, rfl⟩ := List.mem_map.mp hd
    obtain ⟨hl, F, hS⟩ := hg.2 r hr
    refine (pl_tup (n := 1) (c := 47) ?_).up (Nat.le_refl _) ?_
    · intro d hd
      obtain ⟨ins, hi, rfl⟩ := List.mem_map.mp hd
      obtain ⟨i, hlt, rfl⟩ := List.getElem_of_mem hi
      exact pl_ins hl hg.1 (insOk_of hS (List.getElem?_eq_getElem hlt))
    · have := h94 r hr
      rw [List.length_map]
      omega
  refine repr_ok (n := 4) (c := 100000) ((pl_tup (n := 3) (c := 30000) ?_).up (Nat.le_refl _) (by simp)) (by omega) (by omega)
  intro d hd
  simp only [List.mem_cons, List.not_mem_nil, or_false] at hd
  rcases hd with rfl | rfl | rfl
  · exact (pl_word (by simp [words])).up (by omega) (by omega)
  · exact (pl_int (by unfold B; omega)).up (by omega) (by omega)
  · exact (pl_tup (n := 2) (c := 5000) hr).up (Nat.le_refl _) (by rw [List.length_map]; omega)
theorem right_ok {S : Store} {p : Nat} (hp : PotAt S p) : OkD (m_L_law_right [.ref p] S) (fun d _ => d = .bl true) := by
  have hB : b_L_law_right = (mSeq (mIfS (mB (mOp opEq (mCall m_L_law_draw (mCons (mVar 0) (mCons (mC (.int (8))) mNil))) (mC (.int (0))))) (mRet (mCall m_L_law_great_right (mCons (mVar 0) mNil))) mNext)
  (mSeq (mAsg (mCall m_L_law_code (mCons (mVar 0) mNil)) (mGN 1))
  (mSeq (mPar 2 3 (mCall bRepr (mCons (mVar 1) mNil)) (mCall m_L_law_run (mCons (mVar 1) (mCons (mC (.int (150))) mNil))))
  (mSeq (mIfS (mOrT (mB (mOp opIsNot (mCall m_is_code (mCons (mVar 1) mNil)) (mC (.bl true)))) (mB (mOp opNe (mCall bRepr (mCons (mCall m_run (mCons (mVar 1) (mCons (mC (.int (150))) mNil))) mNil)) (mCall bRepr (mCons (mVar 3) mNil))))) (mRet (mC (.bl false))) mNext)
  (mSeq (mAsg (mOp getIx (mVar 3) (mUn opNeg (mC (.int (1))))) (mGN 4))
  (mSeq (mFor (mIS (mNew (mFits (mCons (mC (.int (0))) (mCons (mCall bMax2 (mCons (mC (.int (0))) (mCons (mOp opSub (mVar 4) (mC (.int (1)))) mNil))) (mCons (mVar 4) (mCons (mOp opFdiv (mVar 4) (mC (.int (2)))) (mCons (mOp opAdd (mOp opAdd (mVar 4) (mC (.int (1)))) (mCall m_L_law_draw (mCons (mVar 0) (mCons (mC (.int (9))) mNil)))) mNil)))))))) (mGN 5) bodyR)
  (mRet (mOp opEq (mCall bRepr (mCons (mVar 1) mNil)) (mVar 2))))))))) := rfl
  obtain ⟨_, T1, e1, k, rfl, hk, hp1, hT1⟩ := (draw_ok (n := 8) hp (by omega) (by omega)).ex
  replace e1 : m_L_law_draw [.ref p, .int 8] S = .ok (.int (k : Nat)) T1 := e1
  by_cases c : k = 0
  · have c1 : (((k : Nat) : Int) == 0) = true := by simp [c]
    obtain ⟨_, T2, e2, rfl⟩ := (great_right hp1).ex
    generalize hQ : (fun (d : D) (_ : Store) => d = D.bl true) = Q
    unfold m_L_law_right
    rw [hB]
    clear hB hp hp1 hT1 hk c
    walk_at "m"
    subst hQ
    exact OkD.ok (Q := fun (d : D) (_ : Store) => d = D.bl true) rfl
  · have c1 : (((k : Nat) : Int) == 0) = false := by simp [c]
    obtain ⟨_, T2, e2, rs, start, rfl, hg, hst, hp2, h4, h94⟩ := (code_drawn hp1).ex
    obtain ⟨a, b, hO2, hb0, hb1⟩ := pot_own hp2
    obtain ⟨sc, hsc, hrepc⟩ := code_repr hg hst h4 h94
    obtain ⟨T3, e3, hO3⟩ := law_run hg hst (most := 150) (by omega) T2 hO2
    obtain ⟨T4, e4, hO4⟩ := code_ok hg hst T3 hO3
    obtain ⟨T5, e5, hO5⟩ := run_ok hg hst (most := 150) (by omega) T4 hO4
    obtain ⟨xs, t, hres, htm, ⟨s, hs, hrep⟩, hshort⟩ := res_ok hg hst (most := 150) (by omega)
    obtain ⟨_, T6, e6, j, rfl, hj, hp6, hT6⟩ := (draw_ok (n := 9) (own_pot hO5 hb0 hb1) (by omega) (by omega)).ex
    obtain ⟨a6, b6, hO6, _, _⟩ := pot_own hp6
    rw [hres] at e3 e5
    replace e3 : m_L_law_run [codeD start rs, .int 150] T2 = .ok (.tup (xs ++ [.int (t : Nat)])) T3 := e3
    replace e5 : m_run [codeD start rs, .int 150] T4 = .ok (.tup (xs ++ [.int (t : Nat)])) T5 := e5
    replace e6 : m_L_law_draw [.ref p, .int 9] T5 = .ok (.int (j : Nat)) T6 := e6
    have n1 := ne_same hs
    have n2 := eq_same hsc
    have m1 : (if (t : Int) - 1 > 0 then (t : Int) - 1 else 0) = ((t - 1 : Nat) : Int) := by split <;> omega
    have m2 : (t : Int).fdiv 2 = ((t / 2 : Nat) : Int) := by rw [Int.fdiv_eq_ediv_of_nonneg _ (by omega)]; omega
    have m3 : (t : Int) + 1 + (j : Int) = ((t + 1 + j : Nat) : Int) := by omega
    have l2 : (2 : Int).natAbs.log2 < 9000 := by decide
    have hloop := right_loop hg (q := T6.next) (p := p) hst (cs := .str sc) (due := .tup (xs ++ [.int (t : Nat)])) (tk := .int (t : Nat)) (ns := [0, t - 1, t, t / 2, t + 1 + j]) 5 0 none _ rfl (hO6.push (o := .lst ([0, t - 1, t, t / 2, t + 1 + j].map fun k => D.int (k : Nat))))
    obtain ⟨_, T7, e7, ⟨o, rfl⟩, hO7⟩ := hloop.ex
    have hfor : mFor (mIS (mNew (mFits (mCons (mC (.int (0))) (mCons (mCall bMax2 (mCons (mC (.int (0))) (mCons (mOp opSub (mVar 4) (mC (.int (1)))) mNil))) (mCons (mVar 4) (mCons (mOp opFdiv (mVar 4) (mC (.int (2)))) (mCons (mOp opAdd (mOp opAdd (mVar 4) (mC (.int (1)))) (mCall m_L_law_draw (mCons (mVar 0) (mCons (mC (.int (9))) mNil)))) mNil)))))))) (mGN 5) bodyR [some (.ref p), some (codeD start rs), some (.str sc), some (.tup (xs ++ [.int (t : Nat)])), some (.int (t : Nat)), none] T5 = .ok (.nx [some (.ref p), some (codeD start rs), some (.str sc), some (.tup (xs ++ [.int (t : Nat)])), some (.int (t : Nat)), o]) T7 := by
      have hl : mNew (mFits (mCons (mC (.int (0))) (mCons (mCall bMax2 (mCons (mC (.int (0))) (mCons (mOp opSub (mVar 4) (mC (.int (1)))) mNil))) (mCons (mVar 4) (mCons (mOp opFdiv (mVar 4) (mC (.int (2)))) (mCons (mOp opAdd (mOp opAdd (mVar 4) (mC (.int (1)))) (mCall m_L_law_draw (mCons (mVar 0) (mCons (mC (.int (9))) mNil)))) mNil)))))) [some (.ref p), some (codeD start rs), some (.str sc), some (.tup (xs ++ [.int (t : Nat)])), some (.int (t : Nat)), none] T5 = .ok (.ref T6.next) (T6.push (.lst [.int 0, .int ((t - 1 : Nat) : Int), .int (t : Nat), .int ((t / 2 : Nat) : Int), .int ((t + 1 + j : Nat) : Int)])) := by
        clear hB hp hp1 hT1 hk c hg hst hp2 h4 h94 hO2 hb0 hb1 hsc hO3 hO4 hO5 hres htm hs hshort hj hp6 hT6 hO6 hloop e7 hO7
        generalize codeD start rs = cd at *
        walk_at "m"
      rw [q_e_for, q_e_is, hl, R.bind_ok]
      unfold asItS
      dsimp only
      rw [Store.get_push, if_pos rfl]
      dsimp only
      rw [R.bind_ok]
      have hf : IT.fuel (.lst T6.next) (T6.push (.lst [.int 0, .int ((t - 1 : Nat) : Int), .int (t : Nat), .int ((t / 2 : Nat) : Int), .int ((t + 1 + j : Nat) : Int)])) = 5 + 1 := by
        unfold IT.fuel
        dsimp only
        rw [Store.get_push, if_pos rfl]
        rfl
      rw [hf]
      exact e7
    generalize hQ : (fun (d : D) (_ : Store) => d = D.bl true) = Q
    unfold m_L_law_right
    rw [hB]
    unfold m_is_code b_is_code
    clear hB hp hp1 hT1 hk c hg hst hp2 h4 h94 hO2 hb0 hb1 hsc hO3 hO4 hO5 hres htm hs hshort hj hp6 hT6 hO6 hloop e7 hO7
    generalize codeD start rs = cd at *
    walk_at "m"
    subst hQ
    exact OkD.ok (Q := fun (d : D) (_ : Store) => d = D.bl true) rfl
theorem pot_ok (ns : List Int) (S : Store) : OkD (m_L_law_pot [.rl (ns.map D.int), .int 0] S) (fun (d : D) (T : Store) => ∃ p, d = D.ref p ∧ PotAt T p) := by
  have hpw : ∀ T, opPow (.int 10) (.int 18) T = .ok (.int 1000000000000000000) T := by
    intro T
    unfold opPow dIC
    rfl
  have key : ∀ cell : Int, ∃ b : Int, 0 ≤ b ∧ b ≤ 2147483587 ∧ b = ((cell.fmod 2147483549) * 48271 + 7001 * 0 + 97).fmod 2147483587 + 1 ∧ (cell.fmod 2147483549).natAbs.log2 + (48271 : Int).natAbs.log2 < 1000000 ∧ (7001 : Int).natAbs.log2 + (0 : Int).natAbs.log2 < 1000000 := by
    intro cell
    have x0 : 0 ≤ cell.fmod 2147483549 := by rw [Int.fmod_eq_emod_of_nonneg _ (by omega)]; omega
    have x1 : cell.fmod 2147483549 ≤ 10000000000 := by rw [Int.fmod_eq_emod_of_nonneg _ (by omega)]; omega
    have l1 := log2_lt x0 x1
    have l2 : (48271 : Int).natAbs.log2 < 100 := by decide
    have l3 : (7001 : Int).natAbs.log2 + (0 : Int).natAbs.log2 < 1000000 := by decide
    refine ⟨_, ?_, ?_, rfl, by omega, l3⟩
    · rw [Int.fmod_eq_emod_of_nonneg _ (by omega : (0 : Int) ≤ 2147483587)]; omega
    · rw [Int.fmod_eq_emod_of_nonneg _ (by omega : (0 : Int) ≤ 2147483587)]; omega
  have fin : ∀ (a b : Int), 0 ≤ b → b ≤ 2147483587 → OkD (.ok (.ref S.next) (S.push (.lst [.int a, .int b]))) (fun (d : D) (T : Store) => ∃ p, d = D.ref p ∧ PotAt T p) := fun a b h1 h2 =>
    OkD.ok (Q := fun (d : D) (T : Store) => ∃ p, d = D.ref p ∧ PotAt T p) ⟨S.next, rfl, a, b, by rw [Store.get_push, if_pos rfl], h1, h2, Nat.lt_succ_self _⟩
  generalize (fun (d : D) (T : Store) => ∃ p, d = D.ref p ∧ PotAt T p) = Q at fin ⊢
  unfold m_L_law_pot b_L_law_pot
  cases ns with
  | nil =>
    obtain ⟨b, h1, h2, h3, h4, h5⟩ := key (73 * 0 + 29)
    have l3 : (73 : Int).natAbs.log2 + (0 : Int).natAbs.log2 < 1000000 := by decide
    rw [h3] at h1 h2
    have fin' := fun a => fin a _ h1 h2
    clear key fin h3 h1 h2
    simp only [List.map_nil]
    walk_at "m"
  | cons x ns =>
    obtain ⟨b, h1, h2, h3, h4, h5⟩ := key (if x < 0 then -x else x)
    have hc : decide ((0 : Int) < (((ns.map D.int).length + 1 : Nat) : Int)) = true := decide_eq_true (by omega)
    rw [h3] at h1 h2
    have fin' := fun a => fin a _ h1 h2
    clear key fin h3 h1 h2
    simp only [List.map_cons]
    walk_at "m"
theorem law_true (ns : List Int) (h : ns.length ≤ 63) : ∃ S, m_law [.rl (ns.map MM.D.int)] MM.Store.nil = .ok (.bl true) S := by
  obtain ⟨_, T, e1, p, rfl, hp⟩ := (pot_ok ns MM.Store.nil).ex
  obtain ⟨_, U, e2, rfl⟩ := (right_ok hp).ex
  refine ⟨U, ?_⟩
  clear hp
  unfold m_law b_law
  walk_at "m"
end PP

open PySem PySem.W PyProof.Rows
set_option maxRecDepth 100000 in
set_option maxHeartbeats 0 in
theorem PySem.Challenge.cw_nearestpattern_k83_whole_runs_of_codes_holds : PySem.Challenge.rw_nearestpattern_k83_whole_runs_of_codes.Holds := by
  w_on; o_law; k_head; (case hw => w_witness2)
  k_fill
  refine MM.walk_g (l := PySem.Challenge.rw_nearestpattern_k83_whole_runs_of_codes) (m := PP.m_law) (k := 19) (x := "script") rfl (by decide) rfl ⟨rfl, by decide, by decide⟩ (fun w h Y => PySem.W.kIn_of Y) ?F PP.law_true
  case F =>
    intro w mg fa h KX G hmg
    refine' PP.all_mk KX G hmg ?aC0 ?pg0 ?hd0 ?po0 ?sa0 ?mk0 ?kc0 ?aC1 ?pg1 ?hd1 ?po1 ?sa1 ?mk1 ?kc1 ?a0 ?l0 ?c0 ?k0 ?a1 ?l1 ?c1 ?k1 ?a2 ?l2 ?c2 ?k2 ?a3 ?l3 ?c3 ?k3 ?a4 ?l4 ?c4 ?k4 ?a5 ?l5 ?c5 ?k5 ?a6 ?l6 ?c6 ?k6 ?a7 ?l7 ?c7 ?k7 ?a8 ?l8 ?c8 ?k8 ?a9 ?l9 ?c9 ?k9 ?a10 ?l10 ?c10 ?k10 ?a11 ?l11 ?c11 ?k11 ?a12 ?l12 ?c12 ?k12 ?a13 ?l13 ?c13 ?k13 ?a14 ?l14 ?c14 ?k14 ?a15 ?l15 ?c15 ?k15 ?a16 ?l16 ?c16 ?k16 ?a17 ?l17 ?c17 ?k17 ?a18 ?l18 ?c18 ?k18 ?a19 ?l19 ?c19 ?k19 ?a20 ?l20 ?c20 ?k20 ?a21 ?l21 ?c21 ?k21 ?a22 ?l22 ?c22 ?k22 ?a23 ?i23 ?l23 ?c23 ?k23 ?a24 ?i24 ?l24 ?c24 ?k24 ?a25 ?i25 ?l25 ?c25 ?k25 ?a26 ?i26 ?l26 ?c26 ?k26 ?a27 ?i27 ?l27 ?c27 ?k27 ?a28 ?i28 ?l28 ?c28 ?k28 ?a29 ?l29 ?c29 ?k29 ?a30 ?i30 ?l30 ?c30 ?k30 ?a31 ?i31 ?l31 ?c31 ?k31 ?a32 ?i32 ?l32 ?c32 ?k32 ?a33 ?i33 ?l33 ?c33 ?k33 ?a34 ?l34 ?c34 ?k34 ?a35 ?l35 ?c35 ?k35 ?a36 ?l36 ?c36 ?k36 ?a37 ?l37 ?c37 ?k37 ?a38 ?l38 ?c38 ?k38 ?a39 ?l39 ?c39 ?k39 ?n0 ?n1 ?n2 ?n3 ?n4 ?n5 ?n6 ?z0 ?z1 ?z2 ?z3 ?z4 ?z5 ?z6 ?z7 ?z8 ?z9 ?z10 ?z11 ?z12 ?q0 ?q1 ?r1 ?y1 ?v1 ?q2 ?r2 ?y2 ?v2 ?q3 ?q4 ?q5 ?q6 ?q7 ?q8 ?r8 ?y8 ?v8 ?q9 ?r9 ?y9 ?v9 ?q10 ?r10 ?y10 ?v10
    (case aC0 => k_is)
    (case pg0 => k_is)
    (case hd0 => k_is)
    (case po0 => k_is)
    (case sa0 => k_is)
    (case mk0 => k_is)
    (case kc0 => k_is)
    (case aC1 => k_is)
    (case pg1 => k_is)
    (case hd1 => k_is)
    (case po1 => k_is)
    (case sa1 => k_is)
    (case mk1 => k_is)
    (case kc1 => k_is)
    (case a0 => k_is)
    (case l0 => k_is)
    (case c0 => k_is)
    (case k0 => k_is)
    (case a1 => k_is)
    (case l1 => k_is)
    (case c1 => k_is)
    (case k1 => k_is)
    (case a2 => k_is)
    (case l2 => k_is)
    (case c2 => k_is)
    (case k2 => k_is)
    (case a3 => k_is)
    (case l3 => k_is)
    (case c3 => k_is)
    (case k3 => k_is)
    (case a4 => k_is)
    (case l4 => k_is)
    (case c4 => k_is)
    (case k4 => k_is)
    (case a5 => k_is)
    (case l5 => k_is)
    (case c5 => k_is)
    (case k5 => k_is)
    (case a6 => k_is)
    (case l6 => k_is)
    (case c6 => k_is)
    (case k6 => k_is)
    (case a7 => k_is)
    (case l7 => k_is)
    (case c7 => k_is)
    (case k7 => k_is)
    (case a8 => k_is)
    (case l8 => k_is)
    (case c8 => k_is)
    (case k8 => k_is)
    (case a9 => k_is)
    (case l9 => k_is)
    (case c9 => k_is)
    (case k9 => k_is)
    (case a10 => k_is)
    (case l10 => k_is)
    (case c10 => k_is)
    (case k10 => k_is)
    (case a11 => k_is)
    (case l11 => k_is)
    (case c11 => k_is)
    (case k11 => k_is)
    (case a12 => k_is)
    (case l12 => k_is)
    (case c12 => k_is)
    (case k12 => k_is)
    (case a13 => k_is)
    (case l13 => k_is)
    (case c13 => k_is)
    (case k13 => k_is)
    (case a14 => k_is)
    (case l14 => k_is)
    (case c14 => k_is)
    (case k14 => k_is)
    (case a15 => k_is)
    (case l15 => k_is)
    (case c15 => k_is)
    (case k15 => k_is)
    (case a16 => k_is)
    (case l16 => k_is)
    (case c16 => k_is)
    (case k16 => k_is)
    (case a17 => k_is)
    (case l17 => k_is)
    (case c17 => k_is)
    (case k17 => k_is)
    (case a18 => k_is)
    (case l18 => k_is)
    (case c18 => k_is)
    (case k18 => k_is)
    (case a19 => k_is)
    (case l19 => k_is)
    (case c19 => k_is)
    (case k19 => k_is)
    (case a20 => k_is)
    (case l20 => k_is)
    (case c20 => k_is)
    (case k20 => k_is)
    (case a21 => k_is)
    (case l21 => k_is)
    (case c21 => k_is)
    (case k21 => k_is)
    (case a22 => k_is)
    (case l22 => k_is)
    (case c22 => k_is)
    (case k22 => k_is)
    (case a23 => k_is)
    (case i23 => k_is)
    (case l23 => k_is)
    (case c23 => k_is)
    (case k23 => k_is)
    (case a24 => k_is)
    (case i24 => k_is)
    (case l24 => k_is)
    (case c24 => k_is)
    (case k24 => k_is)
    (case a25 => k_is)
    (case i25 => k_is)
    (case l25 => k_is)
    (case c25 => k_is)
    (case k25 => k_is)
    (case a26 => k_is)
    (case i26 => k_is)
    (case l26 => k_is)
    (case c26 => k_is)
    (case k26 => k_is)
    (case a27 => k_is)
    (case i27 => k_is)
    (case l27 => k_is)
    (case c27 => k_is)
    (case k27 => k_is)
    (case a28 => k_is)
    (case i28 => k_is)
    (case l28 => k_is)
    (case c28 => k_is)
    (case k28 => k_is)
    (case a29 => k_is)
    (case l29 => k_is)
    (case c29 => k_is)
    (case k29 => k_is)
    (case a30 => k_is)
    (case i30 => k_is)
    (case l30 => k_is)
    (case c30 => k_is)
    (case k30 => k_is)
    (case a31 => k_is)
    (case i31 => k_is)
    (case l31 => k_is)
    (case c31 => k_is)
    (case k31 => k_is)
    (case a32 => k_is)
    (case i32 => k_is)
    (case l32 => k_is)
    (case c32 => k_is)
    (case k32 => k_is)
    (case a33 => k_is)
    (case i33 => k_is)
    (case l33 => k_is)
    (case c33 => k_is)
    (case k33 => k_is)
    (case a34 => k_is)
    (case l34 => k_is)
    (case c34 => k_is)
    (case k34 => k_is)
    (case a35 => k_is)
    (case l35 => k_is)
    (case c35 => k_is)
    (case k35 => k_is)
    (case a36 => k_is)
    (case l36 => k_is)
    (case c36 => k_is)
    (case k36 => k_is)
    (case a37 => k_is)
    (case l37 => k_is)
    (case c37 => k_is)
    (case k37 => k_is)
    (case a38 => k_is)
    (case l38 => k_is)
    (case c38 => k_is)
    (case k38 => k_is)
    (case a39 => k_is)
    (case l39 => k_is)
    (case c39 => k_is)
    (case k39 => k_is)
    (case n0 => k_is)
    (case n1 => k_is)
    (case n2 => k_is)
    (case n3 => k_is)
    (case n4 => k_is)
    (case n5 => k_is)
    (case n6 => k_is)
    (case z0 => k_is)
    (case z1 => k_is)
    (case z2 => k_is)
    (case z3 => k_is)
    (case z4 => k_is)
    (case z5 => k_is)
    (case z6 => k_is)
    (case z7 => k_is)
    (case z8 => k_is)
    (case z9 => k_is)
    (case z10 => k_is)
    (case z11 => k_is)
    (case z12 => k_is)
    (case q0 => k_is)
    (case q1 => k_is)
    (case r1 => k_is)
    (case y1 => exact Nat.le_of_ble_eq_true rfl)
    (case v1 => exact .cons ⟨_, rfl⟩ (.cons ⟨_, rfl⟩ (.cons ⟨_, rfl⟩ (.cons ⟨_, rfl⟩ (.cons ⟨_, rfl⟩ (.cons ⟨_, rfl⟩ (.cons ⟨_, rfl⟩ (.nil))))))))
    (case q2 => k_is)
    (case r2 => k_is)
    (case y2 => exact Nat.le_of_ble_eq_true rfl)
    (case v2 => exact .cons ⟨_, rfl⟩ (.cons ⟨_, rfl⟩ (.cons ⟨_, rfl⟩ (.cons ⟨_, rfl⟩ (.cons ⟨_, rfl⟩ (.cons ⟨_, rfl⟩ (.cons ⟨_, rfl⟩ (.cons ⟨_, rfl⟩ (.cons ⟨_, rfl⟩ (.cons ⟨_, rfl⟩ (.nil)))))))))))
    (case q3 => k_is)
    (case q4 => k_is)
    (case q5 => k_is)
    (case q6 => k_is)
    (case q7 => k_is)
    (case q8 => k_is)
    (case r8 => k_is)
    (case y8 => exact Nat.le_of_ble_eq_true rfl)
    (case v8 => exact .cons ⟨_, rfl⟩ (.cons ⟨_, rfl⟩ (.cons ⟨_, rfl⟩ (.cons ⟨_, rfl⟩ (.cons ⟨_, rfl⟩ (.cons ⟨_, rfl⟩ (.cons ⟨_, rfl⟩ (.nil))))))))
    (case q9 => k_is)
    (case r9 => k_is)
    (case y9 => exact Nat.le_of_ble_eq_true rfl)
    (case v9 => exact .cons ⟨_, rfl⟩ (.cons ⟨_, rfl⟩ (.cons ⟨_, rfl⟩ (.cons ⟨_, rfl⟩ (.nil)))))
    (case q10 => k_is)
    (case r10 => k_is)
    (case y10 => exact Nat.le_of_ble_eq_true rfl)
    (case v10 => exact .cons ⟨_, rfl⟩ (.cons ⟨_, rfl⟩ (.cons ⟨_, rfl⟩ (.cons ⟨_, rfl⟩ (.nil)))))
