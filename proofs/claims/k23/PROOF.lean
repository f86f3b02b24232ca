import PyProof.Rows.All
import Wide.All
import OpenK.AllK
import Wide.FinOn
import HandS.ForMost
import HandS.Flow
import HandS.Wide
import HandS.IsInst
import HandS.TupAny
import HandS.TupMul
import HandS.TupLe
import HandS.Deep
import HandS.Zip
import HandS.Conv
import HandS.Defaults
import HandS.EndBits
import KE.KeyNested
import PyProof.P3In
import PyProof.Rows.InDataRows
import HandS.SortInts
import HandS.Style
import KE.GoesEnum
import PyProof.DictMoreH
import KE.KDictPairs
import KE.KDictCopyH
import KE.SortData
import KE.KDictSum
import HandS.Words
import PySem.Challenge.RW_anyiron_k23_whole_counts_run
set_option Elab.async false
set_option linter.all false
set_option maxRecDepth 100000
/-! DL: data over the hand layer. A value as a tree (tuples are trees), the changeable objects in a heap of their own; each construct of Python as a function of data, and the rule that the machine does just that. -/
namespace DL
open PySem PySem.Spec PyProof.Rows L2

/-- a value as data: tuples by what they hold, changeable objects by their number -/
inductive D where
  | non | bl (b : Bool) | int (i : Int) | str (x : Str) | byt (b : Array UInt8) | ty (n : String)
  | tup (xs : List D)
  | ref (n : Nat)
instance : Inhabited D := ⟨.non⟩
/-- a changeable object; fro: a list that is read alone (the script) -/
inductive O where
  | lst (xs : List D)
  | fro (xs : List D)
  | dct (kvs : List (D × D))
instance : Inhabited O := ⟨.lst []⟩
abbrev Ht := List O
/-- small: told so that no evaluation goes on for long -/
def Sm (i : Int) : Prop := i.natAbs < 4611686018427387904
instance (i : Int) : Decidable (Sm i) := inferInstanceAs (Decidable (i.natAbs < 4611686018427387904))
theorem Sm.b62 {i : Int} (h : Sm i) : -(2 ^ 62) ≤ i ∧ i < 2 ^ 62 := by
  have h' : i.natAbs < 4611686018427387904 := h
  have e : (2 : Int) ^ 62 = 4611686018427387904 := by decide
  rw [e]
  omega
theorem Sm.b63 {i : Int} (h : Sm i) : -(2 ^ 63) ≤ i ∧ i < 2 ^ 63 := by
  have h' : i.natAbs < 4611686018427387904 := h
  have e : (2 : Int) ^ 63 = 9223372036854775808 := by decide
  rw [e]
  omega
theorem Sm.of {i : Int} (h : i.natAbs < 4611686018427387904) : Sm i := h
abbrev En := List (Option D)

mutual
def D.beq : D → D → Bool
  | .non, .non => true
  | .bl a, .bl b => decide (a = b)
  | .int a, .int b => decide (a = b)
  | .str a, .str b => decide (a = b)
  | .byt a, .byt b => decide (a = b)
  | .ty a, .ty b => decide (a = b)
  | .tup a, .tup b => D.beqs a b
  | .ref a, .ref b => decide (a = b)
  | _, _ => false
def D.beqs : List D → List D → Bool
  | [], [] => true
  | a :: as, b :: bs => D.beq a b && D.beqs as bs
  | _, _ => false
end
mutual
theorem D.beq_self : ∀ a : D, D.beq a a = true
  | .non => by simp [D.beq]
  | .bl a => by simp [D.beq]
  | .int a => by simp [D.beq]
  | .str a => by simp [D.beq]
  | .byt a => by simp [D.beq]
  | .ty a => by simp [D.beq]
  | .tup a => by rw [D.beq]; exact D.beqs_self a
  | .ref a => by simp [D.beq]
theorem D.beqs_self : ∀ a : List D, D.beqs a a = true
  | [] => by simp [D.beqs]
  | a :: as => by rw [D.beqs, D.beq_self a, D.beqs_self as]; rfl
end
mutual
theorem D.eq_of_beq : ∀ a b : D, D.beq a b = true → a = b
  | .non, b, h => by cases b <;> simp [D.beq] at h <;> rfl
  | .bl a, b, h => by cases b <;> simp [D.beq] at h <;> simp [h]
  | .int a, b, h => by cases b <;> simp [D.beq] at h <;> simp [h]
  | .str a, b, h => by cases b <;> simp [D.beq] at h <;> simp [h]
  | .byt a, b, h => by cases b <;> simp [D.beq] at h <;> simp [h]
  | .ty a, b, h => by cases b <;> simp [D.beq] at h <;> simp [h]
  | .tup a, b, h => by
    cases b <;> simp [D.beq] at h
    rename_i b
    rw [D.eq_of_beqs a b h]
  | .ref a, b, h => by cases b <;> simp [D.beq] at h <;> simp [h]
theorem D.eq_of_beqs : ∀ a b : List D, D.beqs a b = true → a = b
  | [], [], _ => rfl
  | [], _ :: _, h => by simp [D.beqs] at h
  | _ :: _, [], h => by simp [D.beqs] at h
  | a :: as, b :: bs, h => by
    simp only [D.beqs, Bool.and_eq_true] at h
    rw [D.eq_of_beq a b h.1, D.eq_of_beqs as bs h.2]
end
instance : DecidableEq D := fun a b => if h : D.beq a b = true then .isTrue (D.eq_of_beq a b h) else .isFalse fun e => h (e ▸ D.beq_self a)

section
variable (K : PySem.W.Frag) (ρ : List Addr) (H : Hp)
mutual
/-- the value v in the heap H is the data d -/
inductive R : D → V → Prop
  | non : R .non .non
  | bl (b : Bool) : R (.bl b) (.bl b)
  | int (i : Int) : R (.int i) (.int i)
  | str (x : Str) : R (.str x) (.str x)
  | byt (b : Array UInt8) : R (.byt b) (.byt b)
  | ty (n : String) : R (.ty n) (.ty n)
  | tup {ds : List D} {a : Addr} {vs : List V} : SqT K H a vs → Rs ds vs → R (.tup ds) (.ref a)
  | ref {n : Nat} {a : Addr} : ρ[n]? = some a → R (.ref n) (.ref a)
inductive Rs : List D → List V → Prop
  | nil : Rs [] []
  | cons {d : D} {v : V} {ds : List D} {vs : List V} : R d v → Rs ds vs → Rs (d :: ds) (v :: vs)
end
/-- a list that is only read -/
def Fro (a : Addr) (vs : List V) : Prop := (∃ o, H a = some (.frz o (.lst vs))) ∨
    ∃ (o : Obj) (its : Array Value) (n : Nat), K.lookup a = some o ∧ o.cls = .type "list" ∧ o.dict = none ∧ o.data = .seq its n ∧ its.size ≤ sizeLine ∧ Vals vs its.toList
end

/-- a dict of the machine: by entry its hash, key, value -/
abbrev Ent := Int × V × V
def EntOk (e : Ent) (x : DictEntry) : Prop := e.1 = x.hash ∧ RelV e.2.1 x.key ∧ RelV e.2.2 x.val
def DctP (a : Addr) (es : List Ent) (h : Heap) : Prop := (a == sysModules) = false ∧ es.length ≤ sizeLine ∧ ∃ o xs ep, h.get? a = some o ∧ o.ExactDict ∧ o.data = .dict xs ep ∧ Paired EntOk es xs.toList
/-! the key of a dict that data are -/
mutual
def toKey : D → Option NestedKey
  | .non => some .none
  | .bl b => some (.num (if b = true then 1 else 0))
  | .int i => some (.num i)
  | .str x => some (.text x)
  | .tup xs => (toKeys xs).map .tup
  | _ => none
def toKeys : List D → Option (List NestedKey)
  | [] => some []
  | x :: xs => match toKey x, toKeys xs with
    | some k, some ks => some (k :: ks)
    | _, _ => none
end

section
variable (K : PySem.W.Frag) (w : World) (ρ : List Addr) (H : Hp)
inductive KVs : List (D × D) → List Ent → Prop
  | nil : KVs [] []
  | cons {k d : D} {nk : NestedKey} {u v : V} {kvs : List (D × D)} {es : List Ent} : toKey k = some nk → nk.depth ≤ 8 → R K ρ H k u → R K ρ H d v → KVs kvs es → KVs ((k, d) :: kvs) ((nk.hash w, u, v) :: es)
/-- the object o stands at a -/
def OR (o : O) (a : Addr) : Prop := match o with
  | .lst ds => ∃ vs, H a = some (.lst vs) ∧ Rs K ρ H ds vs
  | .fro ds => ∃ vs, Fro K H a vs ∧ Rs K ρ H ds vs
  | .dct kvs => ∃ es, H a = some (.ext (DctP a es)) ∧ KVs K w ρ H kvs es ∧ (kvs.map fun p => toKey p.1).Nodup
end
def O.mut : O → Bool
  | .fro _ => false
  | _ => true

structure HR (K : PySem.W.Frag) (w : World) (ρ : List Addr) (H : Hp) (hp : Ht) : Prop where
  len : ρ.length = hp.length
  inj : ∀ (n m : Nat) (a : Addr) (o u : O), ρ[n]? = some a → ρ[m]? = some a → hp[n]? = some o → hp[m]? = some u → o.mut = true → u.mut = true → n = m
  obj : ∀ (n : Nat) (a : Addr) (o : O), ρ[n]? = some a → hp[n]? = some o → OR K w ρ H o a

structure Le (K : PySem.W.Frag) (ρ : List Addr) (H : Hp) (ρ' : List Addr) (H' : Hp) : Prop where
  pre : ρ <+: ρ'
  tup : ∀ a xs, SqT K H a xs → SqT K H' a xs

section
variable {K : PySem.W.Frag} {w : World} {ρ ρ' ρ'' : List Addr} {H H' H'' : Hp} {hp hp' : Ht}
theorem Le.refl (K : PySem.W.Frag) (ρ : List Addr) (H : Hp) : Le K ρ H ρ H := ⟨List.prefix_refl _, fun _ _ h => h⟩
theorem Le.trans (a : Le K ρ H ρ' H') (b : Le K ρ' H' ρ'' H'') : Le K ρ H ρ'' H'' := ⟨a.pre.trans b.pre, fun x xs h => b.tup x xs (a.tup x xs h)⟩
theorem pre_get {l l' : List Addr} (h : l <+: l') {n : Nat} {a : Addr} (e : l[n]? = some a) : l'[n]? = some a := by
  obtain ⟨t, rfl⟩ := h
  rw [List.getElem?_append_left (List.getElem?_eq_some_iff.mp e).1]
  exact e
mutual
theorem R.mono (l : Le K ρ H ρ' H') : ∀ (d : D) (v : V), R K ρ H d v → R K ρ' H' d v
  | .non, _, h => by cases h; exact .non
  | .bl b, _, h => by cases h; exact .bl b
  | .int i, _, h => by cases h; exact .int i
  | .str x, _, h => by cases h; exact .str x
  | .byt b, _, h => by cases h; exact .byt b
  | .ty n, _, h => by cases h; exact .ty n
  | .tup ds, _, h => by
    cases h with
    | tup s r => exact .tup (l.tup _ _ s) (Rs.mono l ds _ r)
  | .ref n, _, h => by
    cases h with
    | ref e => exact .ref (pre_get l.pre e)
theorem Rs.mono (l : Le K ρ H ρ' H') : ∀ (ds : List D) (vs : List V), Rs K ρ H ds vs → Rs K ρ' H' ds vs
  | [], _, h => by cases h; exact .nil
  | d :: ds, _, h => by
    cases h with
    | cons a b => exact .cons (R.mono l d _ a) (Rs.mono l ds _ b)
end
theorem R.up {d : D} {v : V} (h : R K ρ H d v) (l : Le K ρ H ρ' H') : R K ρ' H' d v := R.mono l d v h
theorem Rs.up {d : List D} {v : List V} (h : Rs K ρ H d v) (l : Le K ρ H ρ' H') : Rs K ρ' H' d v := Rs.mono l d v h
theorem Rs.length : ∀ {ds : List D} {vs : List V}, Rs K ρ H ds vs → ds.length = vs.length
  | _, _, .nil => rfl
  | _, _, .cons _ r => by simp [Rs.length r]
theorem Rs.get : ∀ {ds : List D} {vs : List V} {i : Nat} {d : D}, Rs K ρ H ds vs → ds[i]? = some d → ∃ v, vs[i]? = some v ∧ R K ρ H d v
  | _, _, _, _, .nil, e => by simp at e
  | _, _, 0, _, .cons r _, e => by simp at e; subst e; exact ⟨_, rfl, r⟩
  | _, _, i + 1, d, .cons _ t, e => by
    obtain ⟨u, h1, h2⟩ := Rs.get (i := i) (d := d) t (by simpa using e)
    exact ⟨u, by simpa using h1, h2⟩
theorem Rs.append : ∀ {xs ys : List D} {us ws : List V}, Rs K ρ H xs us → Rs K ρ H ys ws → Rs K ρ H (xs ++ ys) (us ++ ws)
  | _, _, _, _, .nil, s => s
  | _, _, _, _, .cons r t, s => .cons r (Rs.append t s)
theorem Rs.take : ∀ {xs : List D} {us : List V} (n : Nat), Rs K ρ H xs us → Rs K ρ H (xs.take n) (us.take n)
  | _, _, 0, _ => .nil
  | _, _, _ + 1, .nil => .nil
  | _, _, n + 1, .cons r t => .cons r (Rs.take n t)
theorem Rs.drop : ∀ {xs : List D} {us : List V} (n : Nat), Rs K ρ H xs us → Rs K ρ H (xs.drop n) (us.drop n)
  | _, _, 0, r => r
  | _, _, _ + 1, .nil => .nil
  | _, _, n + 1, .cons _ t => Rs.drop n t
theorem Rs.set {x : D} {u : V} (r : R K ρ H x u) : ∀ {xs : List D} {us : List V} (i : Nat), Rs K ρ H xs us → Rs K ρ H (xs.set i x) (us.set i u)
  | _, _, _, .nil => .nil
  | _, _, 0, .cons _ t => .cons r t
  | _, _, i + 1, .cons q t => .cons q (Rs.set r i t)
theorem Rs.rep {xs : List D} {us : List V} (h : Rs K ρ H xs us) : ∀ k : Nat, Rs K ρ H (List.replicate k xs).flatten (List.replicate k us).flatten
  | 0 => .nil
  | k + 1 => by
    rw [List.replicate_succ, List.replicate_succ, List.flatten_cons, List.flatten_cons]
    exact h.append (Rs.rep h k)
theorem Rs.reverse : ∀ {xs : List D} {us : List V}, Rs K ρ H xs us → Rs K ρ H xs.reverse us.reverse
  | _, _, .nil => .nil
  | _, _, .cons r t => by
    rw [List.reverse_cons, List.reverse_cons]
    exact (Rs.reverse t).append (.cons r .nil)
theorem Rs.eraseIdx : ∀ {xs : List D} {us : List V} (i : Nat), Rs K ρ H xs us → Rs K ρ H (xs.eraseIdx i) (us.eraseIdx i)
  | _, _, _, .nil => .nil
  | _, _, 0, .cons _ t => t
  | _, _, i + 1, .cons q t => .cons q (Rs.eraseIdx i t)
theorem Rs.ints : ∀ (ns : List Int), Rs K ρ H (ns.map D.int) (ns.map V.int)
  | [] => .nil
  | n :: ns => .cons (.int n) (Rs.ints ns)
theorem KVs.up {kvs : List (D × D)} {es : List Ent} (h : KVs K w ρ H kvs es) (l : Le K ρ H ρ' H') : KVs K w ρ' H' kvs es := by
  induction h with
  | nil => exact .nil
  | cons a b c d _ ih => exact .cons a b (c.up l) (d.up l) ih
theorem KVs.length {kvs : List (D × D)} {es : List Ent} (h : KVs K w ρ H kvs es) : kvs.length = es.length := by
  induction h with
  | nil => rfl
  | cons _ _ _ _ _ ih => simp [ih]

/-! ### new objects, changed objects -/
theorem sqT_upd {a p : Addr} {xs : List V} {o : HO} (hn : ∀ ys, ¬ Rd H p (.tup ys)) (h : SqT K H a xs) : SqT K (upd H p o) a xs := by
  rcases h with (h | ⟨ob, h⟩) | h
  · have ne : a ≠ p := fun e => hn xs (.inl (e ▸ h))
    exact .inl (.inl (by rw [upd_ne ne]; exact h))
  · have ne : a ≠ p := fun e => hn xs (.inr ⟨ob, e ▸ h⟩)
    exact .inl (.inr ⟨ob, by rw [upd_ne ne]; exact h⟩)
  · exact .inr h
theorem rd_none {p : Addr} (h : H p = none) (u : HO) : ¬ Rd H p u := by
  rintro (z | ⟨o, z⟩) <;> (rw [h] at z; cases z)
theorem Le.new {p : Addr} (o : HO) (h : H p = none) (q : List Addr) : Le K ρ H (ρ ++ q) (upd H p o) := ⟨List.prefix_append _ _, fun a xs s => sqT_upd (fun ys => rd_none h _) s⟩
theorem Le.new0 {p : Addr} (o : HO) (h : H p = none) : Le K ρ H ρ (upd H p o) := ⟨List.prefix_refl _, fun a xs s => sqT_upd (fun ys => rd_none h _) s⟩
theorem Fro.upd {a p : Addr} {vs : List V} {o : HO} (hn : ∀ ob, H p ≠ some (.frz ob (.lst vs))) (h : Fro K H a vs) : Fro K (L2.upd H p o) a vs := by
  rcases h with ⟨ob, h⟩ | h
  · have ne : a ≠ p := fun e => hn ob (e ▸ h)
    exact .inl ⟨ob, by rw [upd_ne ne]; exact h⟩
  · exact .inr h
/-- what stands elsewhere stays -/
theorem OR.keep {o : O} {a p : Addr} {u : HO} (h : OR K w ρ H o a) (l : Le K ρ H ρ' (upd H p u)) (hne : o.mut = true → a ≠ p) (hf : ∀ ob vs, H p ≠ some (.frz ob vs)) : OR K w ρ' (upd H p u) o a := by
  cases o with
  | lst ds =>
    obtain ⟨vs, e, r⟩ := h
    exact ⟨vs, by rw [upd_ne (hne rfl)]; exact e, r.up l⟩
  | fro ds =>
    obtain ⟨vs, e, r⟩ := h
    exact ⟨vs, e.upd fun ob => hf ob _, r.up l⟩
  | dct kvs =>
    obtain ⟨es, e, r, n⟩ := h
    exact ⟨es, by rw [upd_ne (hne rfl)]; exact e, r.up l, n⟩
theorem OR.some {o : O} {a : Addr} (h : OR K w ρ H o a) (hm : o.mut = true) : ∃ u, H a = some u ∧ (∀ ys, u ≠ .tup ys) ∧ ∀ ob vs, u ≠ .frz ob vs := by
  cases o with
  | lst ds => obtain ⟨vs, e, r⟩ := h; exact ⟨_, e, fun _ => nofun, fun _ _ => nofun⟩
  | fro ds => cases hm
  | dct kvs => obtain ⟨es, e, r, _⟩ := h; exact ⟨_, e, fun _ => nofun, fun _ _ => nofun⟩
/-- a new object -/
theorem HR.new (h : HR K w ρ H hp) {p : Addr} {u : HO} {o : O} (hn : H p = none) (ho : OR K w (ρ ++ [p]) (upd H p u) o p) : HR K w (ρ ++ [p]) (upd H p u) (hp ++ [o]) := by
  have l : Le K ρ H (ρ ++ [p]) (upd H p u) := Le.new u hn [p]
  have old : ∀ n a x, (ρ ++ [p])[n]? = some a → (hp ++ [o])[n]? = some x → (n < hp.length ∧ ρ[n]? = some a ∧ hp[n]? = some x) ∨ (n = hp.length ∧ a = p ∧ x = o) := by
    intro n a x e1 e2
    by_cases c : n < hp.length
    · rw [List.getElem?_append_left (by rw [h.len]; exact c)] at e1
      rw [List.getElem?_append_left c] at e2
      exact .inl ⟨c, e1, e2⟩
    · have c2 : n = hp.length := by
        have := (List.getElem?_eq_some_iff.mp e2).1
        simp at this
        omega
      subst c2
      rw [List.getElem?_append_right (Nat.le_refl _), Nat.sub_self] at e2
      rw [← h.len, List.getElem?_append_right (Nat.le_refl _), Nat.sub_self] at e1
      exact .inr ⟨rfl, (Option.some.inj e1).symm, (Option.some.inj e2).symm⟩
  refine ⟨by simp [h.len], fun n m a x y e1 e2 e3 e4 hm hy => ?_, fun n a x e1 e2 => ?_⟩
  · rcases old n a x e1 e3 with ⟨c1, f1, f3⟩ | ⟨c1, rfl, rfl⟩
    · rcases old m a y e2 e4 with ⟨c2, f2, f4⟩ | ⟨c2, rfl, rfl⟩
      · exact h.inj n m a x y f1 f2 f3 f4 hm hy
      · obtain ⟨u', z, _⟩ := (h.obj n _ _ f1 f3).some hm
        rw [hn] at z; cases z
    · rcases old m _ y e2 e4 with ⟨c2, f2, f4⟩ | ⟨c2, _, _⟩
      · obtain ⟨u', z, _⟩ := (h.obj m _ _ f2 f4).some hy
        rw [hn] at z; cases z
      · omega
  · rcases old n a x e1 e2 with ⟨c1, f1, f3⟩ | ⟨c1, rfl, rfl⟩
    · refine (h.obj n a x f1 f3).keep l (fun hm e => ?_) (fun ob vs z => by rw [hn] at z; cases z)
      obtain ⟨u', z, _⟩ := (h.obj n a x f1 f3).some hm
      rw [e, hn] at z; cases z
    · exact ho
/-- an object is changed -/
theorem Le.put {p : Addr} {u v : HO} (h : H p = some u) (h1 : ∀ ys, u ≠ .tup ys) (h2 : ∀ ob vs, u ≠ .frz ob vs) : Le K ρ H ρ (upd H p v) :=
  ⟨List.prefix_refl _, fun a xs s => sqT_upd (fun ys z => by
    rcases z with z | ⟨o, z⟩
    · rw [h] at z; exact h1 _ (Option.some.inj z)
    · rw [h] at z; exact h2 _ _ (Option.some.inj z)) s⟩
theorem HR.put (h : HR K w ρ H hp) {n : Nat} {p : Addr} {u : HO} {o x : O} (e : ρ[n]? = some p) (ex : hp[n]? = some x) (hx : x.mut = true) (hm : o.mut = true) (ho : OR K w ρ (upd H p u) o p) : HR K w ρ (upd H p u) (hp.set n o) := by
  obtain ⟨z, e0, h1, h2⟩ := (h.obj n p x e ex).some hx
  have l : Le K ρ H ρ (upd H p u) := Le.put e0 h1 h2
  have hlt : n < hp.length := (List.getElem?_eq_some_iff.mp ex).1
  have old : ∀ m y, (hp.set n o)[m]? = some y → (m ≠ n ∧ hp[m]? = some y) ∨ (m = n ∧ y = o) := by
    intro m y e2
    by_cases c : m = n
    · subst c
      rw [List.getElem?_set_self hlt] at e2
      exact .inr ⟨rfl, (Option.some.inj e2).symm⟩
    · rw [List.getElem?_set_ne (Ne.symm c)] at e2
      exact .inl ⟨c, e2⟩
  refine ⟨by simp [h.len], fun m k a y z e1 e2 e3 e4 hy hz => ?_, fun m a y e1 e2 => ?_⟩
  · rcases old m y e3 with ⟨c1, f1⟩ | ⟨rfl, rfl⟩
    · rcases old k z e4 with ⟨c2, f2⟩ | ⟨rfl, rfl⟩
      · exact h.inj m k a y z e1 e2 f1 f2 hy hz
      · exact h.inj m k a y x e1 e2 f1 ex hy hx
    · rcases old k z e4 with ⟨c2, f2⟩ | ⟨rfl, rfl⟩
      · exact h.inj m k a x z e1 e2 ex f2 hx hz
      · rfl
  · rcases old m y e2 with ⟨c1, f1⟩ | ⟨rfl, rfl⟩
    · refine (h.obj m a y e1 f1).keep l (fun hy e3 => ?_) fun ob vs z => ?_
      · subst e3
        exact c1 (h.inj m n a y x e1 e f1 ex hy hx)
      · rw [e0] at z
        exact h2 _ _ (Option.some.inj z)
    · rw [e] at e1; cases e1
      exact ho
/-- tuples may be new, nothing else -/
theorem HR.tup (h : HR K w ρ H hp) {p : Addr} {xs : List V} (hn : H p = none) : HR K w ρ (upd H p (.tup xs)) hp := by
  have l : Le K ρ H ρ (upd H p (.tup xs)) := Le.new0 _ hn
  refine ⟨h.len, h.inj, fun n a o e1 e2 => (h.obj n a o e1 e2).keep l (fun hm e => ?_) fun ob vs z => by rw [hn] at z; cases z⟩
  obtain ⟨u', z, _⟩ := (h.obj n a o e1 e2).some hm
  rw [e, hn] at z; cases z
end

/-! ### what comes of data -/
inductive Out (α : Type) where
  | ok (a : α) (hp : Ht)
  | exc (x : D) (hp : Ht)
  | fail
def Out.bind {α β : Type} (x : Out α) (f : α → Ht → Out β) : Out β := match x with
  | .ok a hp => f a hp
  | .exc e hp => .exc e hp
  | .fail => .fail
theorem Out.bind_ok {α β : Type} {x : Out α} {f : α → Ht → Out β} {b : β} {hp : Ht} (h : x.bind f = .ok b hp) : ∃ a hp1, x = .ok a hp1 ∧ f a hp1 = .ok b hp := by
  cases x with
  | ok a hp1 => exact ⟨a, hp1, rfl, h⟩
  | exc _ _ => cases h
  | fail => cases h
@[simp] theorem Out.ok_bind {α β : Type} {a : α} {hp : Ht} {f : α → Ht → Out β} : (Out.ok a hp).bind f = f a hp := rfl

/-- an expression, an argument list, a test -/
abbrev EF := En → Ht → Out D
abbrev AF := En → Ht → Out (List D)
abbrev BF := En → Ht → Out Bool
inductive SO where
  | nx (e : En) (hp : Ht)
  | rt (d : D) (hp : Ht)
  | bk (e : En) (hp : Ht)
  | ct (e : En) (hp : Ht)
  | exc (x : D) (hp : Ht)
  | fail
abbrev SF := En → Ht → SO
def Out.so {α : Type} (x : Out α) (f : α → Ht → SO) : SO := match x with
  | .ok a hp => f a hp
  | .exc e hp => .exc e hp
  | .fail => .fail
@[simp] theorem Out.ok_so {α : Type} {a : α} {hp : Ht} {f : α → Ht → SO} : (Out.ok a hp).so f = f a hp := rfl

section
variable (K : PySem.W.Frag) (w : World)
structure ER (ρ : List Addr) (H : Hp) (env : En) (σ : L2.St) : Prop where
  len : env.length = σ.length
  get : ∀ (i : Nat) (d : D), env[i]? = some (some d) → ∃ v, σ[i]? = some (some v) ∧ R K ρ H d v
/-- a state of data -/
structure At (ρ : List Addr) (H : Hp) (env : En) (hp : Ht) (σ : L2.St) : Prop where
  hr : HR K w ρ H hp
  er : ER K ρ H env σ
def tE (f : EF) : TE := fun σ H Q => ∃ ρ env hp d hp', At K w ρ H env hp σ ∧ f env hp = .ok d hp' ∧ ∀ ρ' H' v, Le K ρ H ρ' H' → HR K w ρ' H' hp' → R K ρ' H' d v → Q v H'
def tA (f : AF) : TA := fun σ H Q => ∃ ρ env hp ds hp', At K w ρ H env hp σ ∧ f env hp = .ok ds hp' ∧ ∀ ρ' H' vs, Le K ρ H ρ' H' → HR K w ρ' H' hp' → Rs K ρ' H' ds vs → Q vs H'
def tT (f : BF) : TT := fun σ H Q => ∃ ρ env hp b hp', At K w ρ H env hp σ ∧ f env hp = .ok b hp' ∧ ∀ ρ' H', Le K ρ H ρ' H' → HR K w ρ' H' hp' → Q b H'
def tS (g : SF) : TS := fun D σ H => ∃ ρ env hp, At K w ρ H env hp σ ∧ match g env hp with
  | .nx env' hp' => ∀ ρ' H' σ', Le K ρ H ρ' H' → At K w ρ' H' env' hp' σ' → D.nx σ' H'
  | .bk env' hp' => ∀ ρ' H' σ', Le K ρ H ρ' H' → At K w ρ' H' env' hp' σ' → D.bk σ' H'
  | .ct env' hp' => ∀ ρ' H' σ', Le K ρ H ρ' H' → At K w ρ' H' env' hp' σ' → D.ct σ' H'
  | .rt d hp' => ∀ ρ' H' v, Le K ρ H ρ' H' → HR K w ρ' H' hp' → R K ρ' H' d v → D.rt v H'
  | _ => False
end
section
variable {K : PySem.W.Frag} {w : World} {ρ ρ' : List Addr} {H H' : Hp} {env : En} {hp hp' : Ht} {σ : L2.St}
theorem ER.up (h : ER K ρ H env σ) (l : Le K ρ H ρ' H') : ER K ρ' H' env σ := ⟨h.len, fun i d e => let ⟨v, e1, r⟩ := h.get i d e; ⟨v, e1, r.up l⟩⟩
theorem At.up (h : At K w ρ H env hp σ) (l : Le K ρ H ρ' H') (hr : HR K w ρ' H' hp') : At K w ρ' H' env hp' σ := ⟨hr, h.er.up l⟩
theorem ER.set (h : ER K ρ H env σ) {i : Nat} {d : D} {v : V} (r : R K ρ H d v) : ER K ρ H (env.set i (some d)) (σ.set i (some v)) := by
  refine ⟨by simp [h.len], fun j x e => ?_⟩
  by_cases c : j = i
  · subst c
    by_cases hl : j < env.length
    · rw [List.getElem?_set_self hl] at e
      rw [List.getElem?_set_self (by rw [← h.len]; exact hl)]
      cases e
      exact ⟨v, rfl, r⟩
    · rw [List.getElem?_eq_none (by simp; omega)] at e
      cases e
  · rw [List.getElem?_set_ne (Ne.symm c)] at e ⊢
    exact h.get j x e
end
/-- weaken a reading -/
theorem peW {X : Cx} {e : Expr} {t t' : TE} (h : PE X e t) (i : ∀ σ H Q, t' σ H Q → t σ H Q) : PE X e t' := ⟨fun pins s σ H Q I q => h.run pins s σ H Q I (i σ H Q q)⟩
theorem paW {X : Cx} {e : List Expr} {t t' : TA} (h : PA X e t) (i : ∀ σ H Q, t' σ H Q → t σ H Q) : PA X e t' := ⟨fun pos pins s σ H Q I q => h.run pos pins s σ H Q I (i σ H Q q)⟩
theorem ptW {X : Cx} {e : Expr} {t t' : TT} (h : PT X e t) (i : ∀ σ H Q, t' σ H Q → t σ H Q) : PT X e t' := ⟨fun pins s σ H Q I q => h.run pins s σ H Q I (i σ H Q q)⟩
theorem psW {X : Cx} {e : Stmt} {t t' : TS} (h : PS X e t) (i : ∀ D σ H, t' D σ H → t D σ H) : PS X e t' := ⟨fun pins s σ H Q I q => h.run pins s σ H Q I (i Q σ H q)⟩
theorem pssW {X : Cx} {e : List Stmt} {t t' : TS} (h : PSs X e t) (i : ∀ D σ H, t' D σ H → t D σ H) : PSs X e t' := ⟨fun pins s σ H Q I q => h.run pins s σ H Q I (i Q σ H q)⟩
end DL
set_option Elab.async false
set_option linter.all false
set_option maxRecDepth 100000
set_option maxHeartbeats 1000000
namespace DL
open PySem PySem.Spec PyProof.Rows L2

/-! ### expressions -/
def fVar (i : Nat) : EF := fun env hp => match env[i]? with
  | some (some d) => .ok d hp
  | _ => .fail
def fC (d : D) : EF := fun _ hp => .ok d hp
abbrev Op2 := D → D → Ht → Out D
abbrev Op1 := D → Ht → Out D
abbrev OpN := List D → Ht → Out D
def fBin (g : Op2) (fa fb : EF) : EF := fun env hp => (fa env hp).bind fun x hp1 => (fb env hp1).bind fun y hp2 => g x y hp2
def fUn (g : Op1) (fa : EF) : EF := fun env hp => (fa env hp).bind fun x hp1 => g x hp1
def fNil : AF := fun _ hp => .ok [] hp
def fCons (fa : EF) (fr : AF) : AF := fun env hp => (fa env hp).bind fun x hp1 => (fr env hp1).bind fun xs hp2 => .ok (x :: xs) hp2
def fTup (fa : AF) : EF := fun env hp => (fa env hp).bind fun xs hp1 => if xs.length ≤ sizeLine then .ok (.tup xs) hp1 else .fail
def fLst (fa : AF) : EF := fun env hp => (fa env hp).bind fun xs hp1 => if xs.length ≤ sizeLine then .ok (.ref hp1.length) (hp1 ++ [.lst xs]) else .fail
def fCall (g : OpN) (fa : AF) : EF := fun env hp => (fa env hp).bind g
def fIf (c : BF) (a b : EF) : EF := fun env hp => (c env hp).bind fun k hp1 => if k = true then a env hp1 else b env hp1
def tAndF (a b : BF) : BF := fun env hp => (a env hp).bind fun k hp1 => if k = true then b env hp1 else .ok false hp1
def tOrF (a b : BF) : BF := fun env hp => (a env hp).bind fun k hp1 => if k = true then .ok true hp1 else b env hp1
def tNotF (a : BF) : BF := fun env hp => (a env hp).bind fun k hp1 => .ok (!k) hp1
/-- truth -/
def tru (d : D) (hp : Ht) : Option Bool := match d with
  | .non => some false
  | .bl b => some b
  | .int i => some (i != 0)
  | .str x => if x.length ≤ sizeLine then some ((x.length : Int) != 0) else none
  | .byt x => if x.size ≤ sizeLine then some ((x.size : Int) != 0) else none
  | .tup xs => some (!xs.isEmpty)
  | .ref n => match hp[n]? with
    | some (.lst xs) => some (!xs.isEmpty)
    | some (.fro xs) => some (!xs.isEmpty)
    | _ => none
  | .ty _ => none
def tTru (a : EF) : BF := fun env hp => (a env hp).bind fun x hp1 => match tru x hp1 with
  | some k => .ok k hp1
  | none => .fail
def tVal (a : EF) : BF := fun env hp => (a env hp).bind fun x hp1 => match x with
  | .bl k => .ok k hp1
  | _ => .fail
def fAndT (a b : EF) : EF := fun env hp => (a env hp).bind fun x hp1 => match tru x hp1 with
  | some k => if k = true then b env hp1 else .ok x hp1
  | none => .fail
def fOrT (a b : EF) : EF := fun env hp => (a env hp).bind fun x hp1 => match tru x hp1 with
  | some k => if k = true then .ok x hp1 else b env hp1
  | none => .fail
def fNotT (a : EF) : EF := fun env hp => (a env hp).bind fun x hp1 => match tru x hp1 with
  | some k => .ok (.bl (!k)) hp1
  | none => .fail

section
variable {X : Cx} {ρ ρ' : List Addr} {H H' : Hp} {env : En} {hp hp' : Ht} {σ : L2.St}
theorem d_var (i : Nat) {x : Str} {pos : Pos} (hN : X.N[i]? = some x := by rfl) (hv : Vis X.env.scope x := by first | exact Or.inl rfl | exact Or.inr (Or.inl rfl) | exact Or.inr (Or.inr rfl)) (hd : (x == ("__debug__" : Str)) = false := by decide)
    (hcd : (x == ("__classdict__" : Str)) = false := by decide) : PE X (.Name x pos) (tE X.K X.w (fVar i)) := by
  refine peW (pe_var hN hv hd hcd) fun σ H Q h => ?_
  obtain ⟨ρ, env, hp, d, hp', a, e, q⟩ := h
  unfold fVar at e
  split at e
  · rename_i d' e'
    cases e
    obtain ⟨v, e1, r⟩ := a.er.get i d e'
    exact ⟨v, e1, q ρ H v (Le.refl _ _ _) a.hr r⟩
  · cases e
theorem peC {e : Expr} {v : V} {d : D} (h : PE X e (tC v)) (hr : ∀ ρ H, R X.K ρ H d v) : PE X e (tE X.K X.w (fC d)) := by
  refine peW h fun σ H Q h => ?_
  obtain ⟨ρ, env, hp, d', hp', a, e, q⟩ := h
  cases e
  exact q ρ H v (Le.refl _ _ _) a.hr (hr ρ H)
theorem d_int {i j pos} : PE X (.Constant (.int i) j pos) (tE X.K X.w (fC (.int i))) := peC pe_int fun _ _ => .int i
theorem d_bl {i j pos} : PE X (.Constant (.bool i) j pos) (tE X.K X.w (fC (.bl i))) := peC pe_bl fun _ _ => .bl i
theorem d_non {j pos} : PE X (.Constant .none j pos) (tE X.K X.w (fC .non)) := peC pe_non fun _ _ => .non
theorem d_str {i j pos} : PE X (.Constant (.str i) j pos) (tE X.K X.w (fC (.str i))) := peC pe_str fun _ _ => .str i
/-- a constant of the module -/
def Kst (K : PySem.W.Frag) (mg : Str → Option Value) (x : Str) (d : D) : Prop := ∃ v u, mg x = some u ∧ RelV v u ∧ ∀ ρ H, R K ρ H d v
theorem d_glob {x : Str} {d : D} {pos : Pos} (k : Kst X.K X.mg x d) (hg : Gl X x := by rfl) (hd : (x == ("__debug__" : Str)) = false := by decide) : PE X (.Name x pos) (tE X.K X.w (fC d)) := by
  obtain ⟨v, u, hm, r, hr⟩ := k
  exact peC (pe_glob hg hm r hd) hr
/-- a built-in class by its name, as a value -/
theorem d_type {x : Str} {n : String} {pos : Pos} (hm : X.mg x = none) (hv : bootBuiltins x = some (.type n) := by decide +kernel) (hg : Gl X x := by rfl) (hn : x ≠ "__name__" := by decide) (hd : (x == ("__debug__" : Str)) = false := by decide) : PE X (.Name x pos) (tE X.K X.w (fC (.ty n))) :=
  peC (pe_bltn hg hm hv (v := .ty n) rfl hn hd) fun _ _ => .ty n

/-- an operator on data is what its rule says -/
def Snd2 (K : PySem.W.Frag) (w : World) (r : R2) (g : Op2) : Prop := ∀ (ρ : List Addr) (H : Hp) (hp : Ht) (x y d : D) (u v : V) (hp' : Ht) (Q : VK), HR K w ρ H hp → R K ρ H x u → R K ρ H y v → g x y hp = .ok d hp' →
  (∀ ρ' H' z, Le K ρ H ρ' H' → HR K w ρ' H' hp' → R K ρ' H' d z → Q z H') → r u v H Q
def Snd1 (K : PySem.W.Frag) (w : World) (r : V → Hp → VK → Prop) (g : Op1) : Prop := ∀ (ρ : List Addr) (H : Hp) (hp : Ht) (x d : D) (u : V) (hp' : Ht) (Q : VK), HR K w ρ H hp → R K ρ H x u → g x hp = .ok d hp' →
  (∀ ρ' H' z, Le K ρ H ρ' H' → HR K w ρ' H' hp' → R K ρ' H' d z → Q z H') → r u H Q
def SndN (K : PySem.W.Frag) (w : World) (r : List V → Hp → VK → Prop) (g : OpN) : Prop := ∀ (ρ : List Addr) (H : Hp) (hp : Ht) (xs : List D) (d : D) (us : List V) (hp' : Ht) (Q : VK), HR K w ρ H hp → Rs K ρ H xs us → g xs hp = .ok d hp' →
  (∀ ρ' H' z, Le K ρ H ρ' H' → HR K w ρ' H' hp' → R K ρ' H' d z → Q z H') → r us H Q
theorem binI {fa fb : EF} {g : Op2} {r : R2} (hs : Snd2 X.K X.w r g) {σ : L2.St} {H : Hp} {Q : VK} (h : tE X.K X.w (fBin g fa fb) σ H Q) : tOp r (tE X.K X.w fa) (tE X.K X.w fb) σ H Q := by
  obtain ⟨ρ, env, hp, d, hp', a, e, q⟩ := h
  obtain ⟨x, hp1, e1, e2⟩ := Out.bind_ok e
  obtain ⟨y, hp2, e3, e4⟩ := Out.bind_ok e2
  refine ⟨ρ, env, hp, x, hp1, a, e1, fun ρ1 H1 u l1 h1 r1 => ⟨ρ1, env, hp1, y, hp2, a.up l1 h1, e3, fun ρ2 H2 v l2 h2 r2 => ?_⟩⟩
  exact hs ρ2 H2 hp2 x y d u v hp' Q h2 (r1.up l2) r2 e4 fun ρ3 H3 z l3 h3 r3 => q ρ3 H3 z ((l1.trans l2).trans l3) h3 r3
theorem d_bin {op : Operator} {r : R2} {g : Op2} {fa fb : EF} {a b : Expr} {pos : Pos} (ho : OpR X (binaryOp op) r) (hs : Snd2 X.K X.w r g) (ha : PE X a (tE X.K X.w fa)) (hb : PE X b (tE X.K X.w fb)) : PE X (.BinOp a op b pos) (tE X.K X.w (fBin g fa fb)) :=
  peW (pe_op ho ha hb) fun _ _ _ h => binI hs h
theorem d_cmpR {op : CmpOp} {r : R2} {g : Op2} {fa fb : EF} {a b : Expr} {pos : Pos} (ho : OpR X (compareOp op) r) (hs : Snd2 X.K X.w r g) (ha : PE X a (tE X.K X.w fa)) (hb : PE X b (tE X.K X.w fb)) (hm : behindInMarks op b = false) : PE X (.Compare a [op] [b] pos) (tE X.K X.w (fBin g fa fb)) :=
  peW (pe_cmpR ho ha hb hm) fun _ _ _ h => binI hs h
theorem d_tcmpR {op : CmpOp} {r : R2} {g : Op2} {fa fb : EF} {a b : Expr} {pos : Pos} (ho : OpR X (compareOp op) r) (hs : Snd2 X.K X.w r g) (ha : PE X a (tE X.K X.w fa)) (hb : PE X b (tE X.K X.w fb)) (hm : behindInMarks op b = false) : PT X (.Compare a [op] [b] pos) (tT X.K X.w (tVal (fBin g fa fb))) := by
  refine ptW (pt_cmpR ho ha hb hm) fun σ H Q h => ?_
  obtain ⟨ρ, env, hp, d, hp', at', e, q⟩ := h
  obtain ⟨x, hp1, e1, e2⟩ := Out.bind_ok e
  refine binI hs ⟨ρ, env, hp, x, hp1, at', e1, fun ρ1 H1 v l h1 r1 => ?_⟩
  cases x with
  | bl k => cases e2; cases r1; exact ⟨_, rfl, q ρ1 H1 l h1⟩
  | _ => cases e2
theorem d_un {op : UnaryOp} {r : V → Hp → VK → Prop} {g : Op1} {fa : EF} {a : Expr} {pos : Pos} (ho : UnR X (unaryOp op) r) (hs : Snd1 X.K X.w r g) (ha : PE X a (tE X.K X.w fa)) : PE X (.UnaryOp op a pos) (tE X.K X.w (fUn g fa)) := by
  refine peW (pe_un ho ha) fun σ H Q h => ?_
  obtain ⟨ρ, env, hp, d, hp', a, e, q⟩ := h
  obtain ⟨x, hp1, e1, e2⟩ := Out.bind_ok e
  refine ⟨ρ, env, hp, x, hp1, a, e1, fun ρ1 H1 u l1 h1 r1 => ?_⟩
  exact hs ρ1 H1 hp1 x d u hp' Q h1 r1 e2 fun ρ3 H3 z l3 h3 r3 => q ρ3 H3 z (l1.trans l3) h3 r3

/-! ### lists of arguments, displays -/
theorem da_nil : PA X [] (tA X.K X.w fNil) := by
  refine paW pa_nil fun σ H Q h => ?_
  obtain ⟨ρ, env, hp, ds, hp', a, e, q⟩ := h
  cases e
  exact q ρ H [] (Le.refl _ _ _) a.hr .nil
theorem da_cons {e : Expr} {es : List Expr} {fa : EF} {fr : AF} (ha : PE X e (tE X.K X.w fa)) (hr : PA X es (tA X.K X.w fr)) (hs : starEach (e :: es) X.env = (false, eval e X.env) :: starEach es X.env := by rfl) : PA X (e :: es) (tA X.K X.w (fCons fa fr)) := by
  refine paW (pa_cons ha hr hs) fun σ H Q h => ?_
  obtain ⟨ρ, env, hp, ds, hp', a, e, q⟩ := h
  obtain ⟨x, hp1, e1, e2⟩ := Out.bind_ok e
  obtain ⟨xs, hp2, e3, e4⟩ := Out.bind_ok e2
  cases e4
  refine ⟨ρ, env, hp, x, hp1, a, e1, fun ρ1 H1 u l1 h1 r1 => ⟨ρ1, env, hp1, xs, hp', a.up l1 h1, e3, fun ρ2 H2 us l2 h2 r2 => ?_⟩⟩
  exact q ρ2 H2 (u :: us) (l1.trans l2) h2 (.cons (r1.up l2) r2)
theorem d_tup {es : List Expr} {fa : AF} {x1} {pos : Pos} (h : PA X es (tA X.K X.w fa)) : PE X (.Tuple es x1 pos) (tE X.K X.w (fTup fa)) := by
  refine peW (pe_tup h) fun σ H Q h => ?_
  obtain ⟨ρ, env, hp, d, hp', a, e, q⟩ := h
  obtain ⟨xs, hp1, e1, e2⟩ := Out.bind_ok e
  refine ⟨ρ, env, hp, xs, hp1, a, e1, fun ρ1 H1 vs l1 h1 r1 => ?_⟩
  split at e2
  · rename_i hz
    cases e2
    refine ⟨by rw [← r1.length]; exact hz, fun p hn => ?_⟩
    have l2 : Le X.K ρ1 H1 ρ1 (upd H1 p (.tup vs)) := Le.new0 _ hn
    exact q ρ1 _ _ (l1.trans l2) (h1.tup hn) (.tup (SqT.of upd_same) (r1.up l2))
  · cases e2
theorem newLst {ds : List D} {vs : List V} {p : Addr} {K : PySem.W.Frag} {w : World} (h : HR K w ρ H hp) (hn : H p = none) (r : Rs K ρ H ds vs) : HR K w (ρ ++ [p]) (upd H p (.lst vs)) (hp ++ [.lst ds]) ∧ R K (ρ ++ [p]) (upd H p (.lst vs)) (.ref hp.length) (.ref p) := by
  refine ⟨h.new hn ⟨vs, upd_same, r.up (Le.new _ hn _)⟩, .ref ?_⟩
  rw [← h.len, List.getElem?_append_right (Nat.le_refl _), Nat.sub_self]
  rfl
theorem d_lst {es : List Expr} {fa : AF} {pos : Pos} (h : PA X es (tA X.K X.w fa)) : PE X (.List es pos) (tE X.K X.w (fLst fa)) := by
  refine peW (pe_lst h) fun σ H Q h => ?_
  obtain ⟨ρ, env, hp, d, hp', a, e, q⟩ := h
  obtain ⟨xs, hp1, e1, e2⟩ := Out.bind_ok e
  refine ⟨ρ, env, hp, xs, hp1, a, e1, fun ρ1 H1 vs l1 h1 r1 => ?_⟩
  split at e2
  · rename_i hz
    cases e2
    refine ⟨by rw [← r1.length]; exact hz, fun p hn => ?_⟩
    obtain ⟨q1, q2⟩ := newLst h1 hn r1
    exact q _ _ _ (l1.trans (Le.new _ hn _)) q1 q2
  · cases e2

/-! ### tests -/
theorem d_and1 {a : Expr} {pos : Pos} {fa : BF} (ha : PT X a (tT X.K X.w fa)) : PW X (.BoolOp .And [a] pos) (tT X.K X.w fa) := pw_and1 ha
theorem d_or1 {a : Expr} {pos : Pos} {fa : BF} (ha : PT X a (tT X.K X.w fa)) : PW X (.BoolOp .Or [a] pos) (tT X.K X.w fa) := pw_or1 ha
theorem pwW {e : Expr} {t t' : TT} (h : PW X e t) (i : ∀ σ H Q, t' σ H Q → t σ H Q) : PW X e t' := ⟨fun wh pins s σ H Q I q => h.run wh pins s σ H Q I (i σ H Q q)⟩
theorem d_tand {a b : Expr} {rest : List Expr} {pos : Pos} {fa fb : BF} (ha : PT X a (tT X.K X.w fa)) (hb : PW X (.BoolOp .And (b :: rest) pos) (tT X.K X.w fb)) : PW X (.BoolOp .And (a :: b :: rest) pos) (tT X.K X.w (tAndF fa fb)) := by
  refine pwW (pw_and ha hb) fun σ H Q h => ?_
  obtain ⟨ρ, env, hp, d, hp', at', e, q⟩ := h
  obtain ⟨k, hp1, e1, e2⟩ := Out.bind_ok e
  refine ⟨ρ, env, hp, k, hp1, at', e1, fun ρ1 H1 l1 h1 => ?_⟩
  cases k with
  | true => exact ⟨ρ1, env, hp1, d, hp', at'.up l1 h1, e2, fun ρ2 H2 l2 h2 => q ρ2 H2 (l1.trans l2) h2⟩
  | false => cases e2; exact q ρ1 H1 l1 h1
theorem d_tor {a b : Expr} {rest : List Expr} {pos : Pos} {fa fb : BF} (ha : PT X a (tT X.K X.w fa)) (hb : PW X (.BoolOp .Or (b :: rest) pos) (tT X.K X.w fb)) : PW X (.BoolOp .Or (a :: b :: rest) pos) (tT X.K X.w (tOrF fa fb)) := by
  refine pwW (pw_or ha hb) fun σ H Q h => ?_
  obtain ⟨ρ, env, hp, d, hp', at', e, q⟩ := h
  obtain ⟨k, hp1, e1, e2⟩ := Out.bind_ok e
  refine ⟨ρ, env, hp, k, hp1, at', e1, fun ρ1 H1 l1 h1 => ?_⟩
  cases k with
  | false => exact ⟨ρ1, env, hp1, d, hp', at'.up l1 h1, e2, fun ρ2 H2 l2 h2 => q ρ2 H2 (l1.trans l2) h2⟩
  | true => cases e2; exact q ρ1 H1 l1 h1
theorem d_tnot {a : Expr} {pos : Pos} {fa : BF} (ha : PT X a (tT X.K X.w fa)) : PT X (.UnaryOp .Not a pos) (tT X.K X.w (tNotF fa)) := by
  refine ptW (pt_not ha) fun σ H Q h => ?_
  obtain ⟨ρ, env, hp, d, hp', at', e, q⟩ := h
  obtain ⟨k, hp1, e1, e2⟩ := Out.bind_ok e
  cases e2
  exact ⟨ρ, env, hp, k, hp', at', e1, fun ρ1 H1 l1 h1 => q ρ1 H1 l1 h1⟩
theorem truV {K : PySem.W.Frag} {w : World} {x : D} {v : V} {k : Bool} (h : HR K w ρ H hp) (r : R K ρ H x v) (e : tru x hp = some k) : TruV K v H k := by
  cases r with
  | non => cases e; exact rfl
  | bl b => cases e; exact rfl
  | int i => cases e; exact rfl
  | str x =>
    simp only [tru] at e
    split at e
    · cases e; exact ⟨by assumption, rfl⟩
    · cases e
  | byt x =>
    simp only [tru] at e
    split at e
    · cases e; exact ⟨by assumption, rfl⟩
    · cases e
  | ty n => cases e
  | @tup ds a vs s r =>
    cases e
    refine .inr (.inl ⟨vs, s, ?_⟩)
    cases r <;> rfl
  | @ref n a e1 =>
    simp only [tru] at e
    split at e
    · rename_i xs ex
      cases e
      obtain ⟨vs, e2, r2⟩ := h.obj n a _ e1 ex
      refine .inl ⟨vs, SqL.of e2, ?_⟩
      cases r2 <;> rfl
    · rename_i xs ex
      cases e
      obtain ⟨vs, e2, r2⟩ := h.obj n a _ e1 ex
      refine .inl ⟨vs, ?_, ?_⟩
      · rcases e2 with ⟨o, e2⟩ | e2
        · exact .inl (.inr ⟨o, e2⟩)
        · exact .inr e2
      · cases r2 <;> rfl
    · cases e
theorem d_ttru {a : Expr} {fa : EF} (ha : PE X a (tE X.K X.w fa)) (he : ∀ whole, isTrue a X.env whole = (do let v ← whole; standAt a.pos; holding [v] (truthy v)) := by intro _; rfl) : PT X a (tT X.K X.w (tTru fa)) := by
  refine ptW (pt_truth ha he) fun σ H Q h => ?_
  obtain ⟨ρ, env, hp, d, hp', at', e, q⟩ := h
  obtain ⟨x, hp1, e1, e2⟩ := Out.bind_ok e
  refine ⟨ρ, env, hp, x, hp1, at', e1, fun ρ1 H1 v l1 h1 r1 => ?_⟩
  split at e2
  · rename_i k ek
    cases e2
    exact ⟨_, truV h1 r1 ek, q ρ1 H1 l1 h1⟩
  · cases e2
theorem d_andT {a b : Expr} {rest : List Expr} {pos : Pos} {fa fb : EF} (ha : PE X a (tE X.K X.w fa)) (hb : PE X (.BoolOp .And (b :: rest) pos) (tE X.K X.w fb)) : PE X (.BoolOp .And (a :: b :: rest) pos) (tE X.K X.w (fAndT fa fb)) := by
  refine peW (pe_andT ha hb) fun σ H Q h => ?_
  obtain ⟨ρ, env, hp, d, hp', at', e, q⟩ := h
  obtain ⟨x, hp1, e1, e2⟩ := Out.bind_ok e
  refine ⟨ρ, env, hp, x, hp1, at', e1, fun ρ1 H1 v l1 h1 r1 => ?_⟩
  split at e2
  · rename_i k ek
    refine ⟨k, truV h1 r1 ek, ?_⟩
    cases k with
    | true => exact ⟨ρ1, env, hp1, d, hp', at'.up l1 h1, e2, fun ρ2 H2 z l2 h2 r2 => q ρ2 H2 z (l1.trans l2) h2 r2⟩
    | false => cases e2; exact q ρ1 H1 v l1 h1 r1
  · cases e2
theorem d_orT {a b : Expr} {rest : List Expr} {pos : Pos} {fa fb : EF} (ha : PE X a (tE X.K X.w fa)) (hb : PE X (.BoolOp .Or (b :: rest) pos) (tE X.K X.w fb)) : PE X (.BoolOp .Or (a :: b :: rest) pos) (tE X.K X.w (fOrT fa fb)) := by
  refine peW (pe_orT ha hb) fun σ H Q h => ?_
  obtain ⟨ρ, env, hp, d, hp', at', e, q⟩ := h
  obtain ⟨x, hp1, e1, e2⟩ := Out.bind_ok e
  refine ⟨ρ, env, hp, x, hp1, at', e1, fun ρ1 H1 v l1 h1 r1 => ?_⟩
  split at e2
  · rename_i k ek
    refine ⟨k, truV h1 r1 ek, ?_⟩
    cases k with
    | false => exact ⟨ρ1, env, hp1, d, hp', at'.up l1 h1, e2, fun ρ2 H2 z l2 h2 r2 => q ρ2 H2 z (l1.trans l2) h2 r2⟩
    | true => cases e2; exact q ρ1 H1 v l1 h1 r1
  · cases e2
theorem d_one {op : BoolOp} {a : Expr} {pos : Pos} {fa : EF} (ha : PE X a (tE X.K X.w fa)) : PE X (.BoolOp op [a] pos) (tE X.K X.w fa) := pe_one ha
theorem d_notT {a : Expr} {pos : Pos} {fa : EF} (ha : PE X a (tE X.K X.w fa)) : PE X (.UnaryOp .Not a pos) (tE X.K X.w (fNotT fa)) := by
  refine peW (pe_notT ha) fun σ H Q h => ?_
  obtain ⟨ρ, env, hp, d, hp', at', e, q⟩ := h
  obtain ⟨x, hp1, e1, e2⟩ := Out.bind_ok e
  refine ⟨ρ, env, hp, x, hp1, at', e1, fun ρ1 H1 v l1 h1 r1 => ?_⟩
  split at e2
  · rename_i k ek
    cases e2
    exact ⟨k, truV h1 r1 ek, q ρ1 H1 _ l1 h1 (.bl _)⟩
  · cases e2
theorem d_if {c a b : Expr} {pos : Pos} {fc : BF} {fa fb : EF} (hc : PT X c (tT X.K X.w fc)) (ha : PE X a (tE X.K X.w fa)) (hb : PE X b (tE X.K X.w fb)) : PE X (.IfExp c a b pos) (tE X.K X.w (fIf fc fa fb)) := by
  refine peW (pe_ifExp hc ha hb) fun σ H Q h => ?_
  obtain ⟨ρ, env, hp, d, hp', at', e, q⟩ := h
  obtain ⟨k, hp1, e1, e2⟩ := Out.bind_ok e
  refine ⟨ρ, env, hp, k, hp1, at', e1, fun ρ1 H1 l1 h1 => ?_⟩
  cases k with
  | true => exact ⟨ρ1, env, hp1, d, hp', at'.up l1 h1, e2, fun ρ2 H2 z l2 h2 r2 => q ρ2 H2 z (l1.trans l2) h2 r2⟩
  | false => exact ⟨ρ1, env, hp1, d, hp', at'.up l1 h1, e2, fun ρ2 H2 z l2 h2 r2 => q ρ2 H2 z (l1.trans l2) h2 r2⟩
/-- a conditional expression as a test -/
theorem d_tif {c a b : Expr} {pos : Pos} {fc fa fb : BF} (hc : PT X c (tT X.K X.w fc)) (ha : PT X a (tT X.K X.w fa)) (hb : PT X b (tT X.K X.w fb)) : PT X (.IfExp c a b pos) (tT X.K X.w (fun env hp => (fc env hp).bind fun k hp1 => if k = true then fa env hp1 else fb env hp1)) := by
  refine ⟨fun pins s σ H Q I h => ?_⟩
  obtain ⟨ρ, env, hp, d, hp', at', e, q⟩ := h
  obtain ⟨k, hp1, e1, e2⟩ := Out.bind_ok e
  have h0 := hc.run pins s σ H (fun k' H1 => k' = k ∧ ∃ ρ1, Le X.K ρ H ρ1 H1 ∧ HR X.K X.w ρ1 H1 hp1) I ⟨ρ, env, hp, k, hp1, at', e1, fun ρ1 H1 l1 h1 => ⟨rfl, ρ1, l1, h1⟩⟩
  show wpAny _ _ (PySem.isTrue (.IfExp c a b pos) X.env _) _ _ _
  unfold PySem.isTrue
  refine wpAny_bind (thn h0 fun k' s1 hk => ?_)
  obtain ⟨H1, I1, ek, ρ1, l1, h1⟩ := hk
  subst ek
  cases k' with
  | true => exact ha.run pins s1 σ H1 Q I1 ⟨ρ1, env, hp1, d, hp', at'.up l1 h1, e2, fun ρ2 H2 l2 h2 => q ρ2 H2 (l1.trans l2) h2⟩
  | false => exact hb.run pins s1 σ H1 Q I1 ⟨ρ1, env, hp1, d, hp', at'.up l1 h1, e2, fun ρ2 H2 l2 h2 => q ρ2 H2 (l1.trans l2) h2⟩
end
end DL
set_option Elab.async false
set_option linter.all false
set_option maxRecDepth 100000
set_option maxHeartbeats 4000000
namespace DL
open PySem PySem.Spec PyProof.Rows L2

/-! ### tuple * int, any number -/
theorem tuple_mulSame (l : Addr) (items : Array Value) (n : Nat) (dd : Option Addr) (sl : Array (Option Value)) (x : Int) (u : Tok) (c0 : (decide (x < -(2 ^ 63)) || decide (x ≥ 2 ^ 63)) = false) (c1 : (items.isEmpty || x == 1) = true) :
    Meets (Builtin.«tuple.__mul__» ⟨[.ref l, .int x u], []⟩) (fun _ R s => s.heap.get? l = some { cls := .type "tuple", dict := dd, data := .seq items n, slots := sl } ∧ R (.ok (.ret (Value.ref l))) s) :=
  .of_wp fun prog w A R s h => by
    obtain ⟨hp, g, d, tk, os⟩ := s
    obtain ⟨hl, h⟩ := h
    have f1 := AutoSeq1.idx_int
    wp_walk using wpAny_loadPart' hl
    repeat (first
      | (refine wpAny_ite_false (decide_eq_false (by rw [c0]; exact Bool.false_ne_true)) ?_; wp_walk using wpAny_loadPart' hl)
      | (refine wpAny_ite_true (decide_eq_true c1) ?_; wp_walk using wpAny_loadPart' hl))
    exact ⟨_, rfl, h⟩
theorem tuple_mulNone (l : Addr) (items : Array Value) (n : Nat) (dd : Option Addr) (sl : Array (Option Value)) (x : Int) (u : Tok) (c0 : (decide (x < -(2 ^ 63)) || decide (x ≥ 2 ^ 63)) = false) (c1 : (items.isEmpty || x == 1) = false) (c2 : (decide (x ≤ 0) || items.isEmpty) = true) :
    Meets (Builtin.«tuple.__mul__» ⟨[.ref l, .int x u], []⟩) (fun _ R s => s.heap.get? l = some { cls := .type "tuple", dict := dd, data := .seq items n, slots := sl } ∧
      R (.ok (.ret (Value.ref s.heap.objs.size))) { s with heap := s.heap.push { cls := Value.type "tuple", data := Data.seq #[] }, toks := s.toks }) :=
  .of_wp fun prog w A R s h => by
    obtain ⟨hp, g, d, tk, os⟩ := s
    obtain ⟨hl, h⟩ := h
    have f1 := AutoSeq1.idx_int
    wp_walk using wpAny_loadPart' hl
    repeat (first
      | (refine wpAny_ite_false (decide_eq_false (by rw [c0]; exact Bool.false_ne_true)) ?_; wp_walk using wpAny_loadPart' hl)
      | (refine wpAny_ite_false (decide_eq_false (by rw [c1]; exact Bool.false_ne_true)) ?_; wp_walk using wpAny_loadPart' hl)
      | (refine wpAny_ite_true (decide_eq_true c2) ?_; wp_walk using wpAny_loadPart' hl))
    exact ⟨_, rfl, h⟩

def rRepA (K : PySem.W.Frag) : R2 := fun x y H Q => ∃ l k xs, x = .ref l ∧ y = .int k ∧ SqT K H l xs ∧ -(2 ^ 63) ≤ k ∧ k < 2 ^ 63 ∧ (xs = [] ∨ k = 1 → Q (.ref l) H) ∧ (xs ≠ [] → k ≤ 0 → ∀ p, H p = none → Q (.ref p) (upd H p (.tup []))) ∧
  (xs ≠ [] → 2 ≤ k → k ≤ 1000 ∧ xs.length ≤ 1000 ∧ ∀ p, H p = none → Q (.ref p) (upd H p (.tup (List.replicate k.toNat xs).flatten)))
theorem op_repA {X : Cx} : OpR X (binaryOp .Mult) (rRepA X.K) := by
  intro pins s σ H x y v u Q I rx ry h
  obtain ⟨l, k, xs, rfl, rfl, hT, hlo, hhi, q1, q2, q3⟩ := h
  by_cases hbig : xs ≠ [] ∧ 2 ≤ k
  · obtain ⟨h1, h2, h3⟩ := q3 hbig.1 hbig.2
    exact op_repT pins s σ H _ _ v u Q I rx ry ⟨l, k, xs, rfl, rfl, hT, hbig.1, hbig.2, h1, h2, h3⟩
  cases rx
  obtain ⟨t, rfl⟩ := ry
  obtain ⟨its, r, ⟨⟨cls, dd, data, sl⟩, ho, hc, n, hd⟩, hs⟩ := I.tuple hT
  simp only at hc hd
  subst hc hd
  have hle : its.length = xs.length := r.length.symm
  have c0 : (decide (k < -(2 ^ 63)) || decide (k ≥ 2 ^ 63)) = false := by
    rw [decide_eq_false (by omega), decide_eq_false (by omega)] <;> rfl
  by_cases h1 : xs = [] ∨ k = 1
  · have c1 : (its.toArray.isEmpty || k == 1) = true := by
      rcases h1 with h1 | h1
      · subst h1
        cases r
        rfl
      · subst h1
        simp
    refine wpAny_binaryOp_repeat_ref (T := "tuple") (U := "int") (by decide) ⟨_, ho, rfl⟩ (fun s' => typeIs_int s' k t) noFill_tuple_mul F.fills_int_mul F.slot_int_rmul repeat_tuple F.slot_int_index.lookup
      (call_meets F.slot_int_rmul (typeIs_int s k t) F.entry_int_rmul (F.args_int_rmul_2 _ _) (int_rmul_tuple k t l its.toArray n dd sl)
        ⟨ho, rfl, ⟨_, ho, rfl⟩, call_meets F.slot_tuple_mul ⟨_, ho, rfl⟩ F.entry_tuple_mul (F.args_tuple_mul_2 _ _) (tuple_mulSame l its.toArray n dd sl k t c0 c1) ⟨ho, ?_⟩⟩)
    exact ⟨.ref l, H, I, rfl, q1 h1⟩
  · have hne : xs ≠ [] := fun e => h1 (.inl e)
    have hk : k ≤ 0 := by
      have := fun e => h1 (.inr e)
      have h2 : ¬ 2 ≤ k := fun e => hbig ⟨hne, e⟩
      omega
    have hn : its ≠ [] := fun e => hne (by
      rw [e] at hle
      exact List.eq_nil_of_length_eq_zero hle.symm)
    have hi : its.toArray.isEmpty = false := by
      cases its with
      | nil => exact absurd rfl hn
      | cons a b => rfl
    have c1 : (its.toArray.isEmpty || k == 1) = false := by
      rw [hi, Bool.false_or]
      exact beq_eq_false_iff_ne.mpr (by omega)
    have c2 : (decide (k ≤ 0) || its.toArray.isEmpty) = true := by
      rw [decide_eq_true hk]; rfl
    refine wpAny_binaryOp_repeat_ref (T := "tuple") (U := "int") (by decide) ⟨_, ho, rfl⟩ (fun s' => typeIs_int s' k t) noFill_tuple_mul F.fills_int_mul F.slot_int_rmul repeat_tuple F.slot_int_index.lookup
      (call_meets F.slot_int_rmul (typeIs_int s k t) F.entry_int_rmul (F.args_int_rmul_2 _ _) (int_rmul_tuple k t l its.toArray n dd sl)
        ⟨ho, rfl, ⟨_, ho, rfl⟩, call_meets F.slot_tuple_mul ⟨_, ho, rfl⟩ F.entry_tuple_mul (F.args_tuple_mul_2 _ _) (tuple_mulNone l its.toArray n dd sl k t c0 c1 c2) ⟨ho, ?_⟩⟩)
    refine ⟨.ref s.heap.objs.size, _, I.laid (t' := s.toks) (o := .tup []) (fun b ob q => Heap.get?_push_of_some _ q) (Nat.le_refl _) ?_, rfl, q2 hne hk _ (I.hok.fresh (Nat.le_refl _))⟩
    exact ⟨Nat.zero_le _, [], .nil, IsTup.new _ _⟩

/-! ### data as the library's data, for == -/
mutual
def pyW (sub : Nat → Option PyData) : D → Option PyData
  | .non => some .none
  | .bl b => some (.bool b)
  | .int i => some (.int i)
  | .str x => some (.str x)
  | .tup xs => (pyWs sub xs).map .tuple
  | .ref n => sub n
  | _ => none
def pyWs (sub : Nat → Option PyData) : List D → Option (List PyData)
  | [] => some []
  | x :: xs => match pyW sub x, pyWs sub xs with
    | some p, some ps => some (p :: ps)
    | _, _ => none
end
def pyR : Nat → Ht → Nat → Option PyData
  | 0, _, _ => none
  | f + 1, hp, n => match hp[n]? with
    | some (.lst xs) => (pyWs (pyR f hp) xs).map .list
    | some (.fro xs) => (pyWs (pyR f hp) xs).map .list
    | _ => none
def py (hp : Ht) (d : D) : Option PyData := pyW (pyR 4 hp) d
section
variable {K : PySem.W.Frag} {w : World} {ρ ρ' : List Addr} {H H' : Hp} {hp hp' : Ht}
mutual
theorem pyW_dp {sub : Nat → Option PyData} (hs : ∀ n a p, ρ[n]? = some a → sub n = some p → Dp K H (.ref a) p) : ∀ (d : D) (v : V) (p : PyData), R K ρ H d v → pyW sub d = some p → Dp K H v p
  | .non, _, _, r, e => by cases r; simp only [pyW, Option.some.injEq] at e; subst e; exact .non
  | .bl b, _, _, r, e => by cases r; simp only [pyW, Option.some.injEq] at e; subst e; exact .bl b
  | .int b, _, _, r, e => by cases r; simp only [pyW, Option.some.injEq] at e; subst e; exact .int b
  | .str b, _, _, r, e => by cases r; simp only [pyW, Option.some.injEq] at e; subst e; exact .str b
  | .byt b, _, _, r, e => by simp [pyW] at e
  | .ty b, _, _, r, e => by simp [pyW] at e
  | .ref n, _, _, r, e => by
    cases r with
    | ref e1 => exact hs n _ _ e1 (by simpa only [pyW] using e)
  | .tup ds, _, _, r, e => by
    cases r with
    | tup s r =>
      simp only [pyW, Option.map_eq_some_iff] at e
      obtain ⟨ps, e1, rfl⟩ := e
      exact .tup s (pyWs_dp hs ds _ ps r e1)
theorem pyWs_dp {sub : Nat → Option PyData} (hs : ∀ n a p, ρ[n]? = some a → sub n = some p → Dp K H (.ref a) p) : ∀ (d : List D) (v : List V) (p : List PyData), Rs K ρ H d v → pyWs sub d = some p → DpAll K H v p
  | [], _, _, r, e => by cases r; simp only [pyWs, Option.some.injEq] at e; subst e; exact .nil
  | d :: ds, _, _, r, e => by
    cases r with
    | cons a b =>
      simp only [pyWs] at e
      split at e
      · rename_i p ps e1 e2
        cases e
        exact .cons (pyW_dp hs d _ p a e1) (pyWs_dp hs ds _ ps b e2)
      · cases e
end
theorem froL {a : Addr} {vs : List V} (h : Fro K H a vs) : SqL K H a vs := by
  rcases h with ⟨o, e2⟩ | e2
  · exact .inl (.inr ⟨o, e2⟩)
  · exact .inr e2
/-- a list object that is read -/
def lsOf (hp : Ht) (n : Nat) : Option (List D) := match hp[n]? with
  | some (.lst xs) => some xs
  | some (.fro xs) => some xs
  | _ => none
theorem lsOf_sq (h : HR K w ρ H hp) {n : Nat} {a : Addr} {xs : List D} (e : ρ[n]? = some a) (ex : lsOf hp n = some xs) : ∃ vs, SqL K H a vs ∧ Rs K ρ H xs vs := by
  unfold lsOf at ex
  split at ex
  · rename_i ys ey
    cases ex
    obtain ⟨vs, e2, r2⟩ := h.obj n a _ e ey
    exact ⟨vs, SqL.of e2, r2⟩
  · rename_i ys ey
    cases ex
    obtain ⟨vs, e2, r2⟩ := h.obj n a _ e ey
    exact ⟨vs, froL e2, r2⟩
  · cases ex
theorem pyR_dp (h : HR K w ρ H hp) : ∀ (f n : Nat) (a : Addr) (p : PyData), ρ[n]? = some a → pyR f hp n = some p → Dp K H (.ref a) p
  | 0, _, _, _, _, e => by simp [pyR] at e
  | f + 1, n, a, p, e1, e => by
    simp only [pyR] at e
    split at e
    · rename_i xs ex
      simp only [Option.map_eq_some_iff] at e
      obtain ⟨ps, e2, rfl⟩ := e
      obtain ⟨vs, q, r⟩ := lsOf_sq h e1 (by unfold lsOf; rw [ex])
      exact .lst q (pyWs_dp (pyR_dp h f) xs vs ps r e2)
    · rename_i xs ex
      simp only [Option.map_eq_some_iff] at e
      obtain ⟨ps, e2, rfl⟩ := e
      obtain ⟨vs, q, r⟩ := lsOf_sq h e1 (by unfold lsOf; rw [ex])
      exact .lst q (pyWs_dp (pyR_dp h f) xs vs ps r e2)
    · cases e
theorem py_dp (h : HR K w ρ H hp) {d : D} {v : V} {p : PyData} (r : R K ρ H d v) (e : py hp d = some p) : Dp K H v p := pyW_dp (pyR_dp h 4) d v p r e
end

/-! ### operators -/
def gAdd : Op2 := fun x y hp => match x, y with
  | .int i, .int j => .ok (.int (i + j)) hp
  | .str i, .str j => if i.length + j.length ≤ sizeLine then .ok (.str (i ++ j)) hp else .fail
  | .tup a, .tup b => if a.length + b.length ≤ sizeLine then .ok (.tup (a ++ b)) hp else .fail
  | .ref n, .ref m => match hp[n]?, hp[m]? with
    | some (.lst a), some (.lst b) => if a.length + b.length ≤ sizeLine then .ok (.ref hp.length) (hp ++ [.lst (a ++ b)]) else .fail
    | _, _ => .fail
  | _, _ => .fail
def gSub : Op2 := fun x y hp => match x, y with
  | .int i, .int j => .ok (.int (i - j)) hp
  | _, _ => .fail
def gMul : Op2 := fun x y hp => match x, y with
  | .int i, .int j => if i.natAbs.log2 + j.natAbs.log2 < 1000000 then .ok (.int (i * j)) hp else .fail
  | .tup a, .int k => if Sm k ∧ k ≤ 1000 ∧ a.length ≤ 1000 then .ok (.tup (List.replicate k.toNat a).flatten) hp else .fail
  | .ref n, .int k => match hp[n]? with
    | some (.lst a) => if Sm k ∧ a.length * k.toNat ≤ sizeLine then .ok (.ref hp.length) (hp ++ [.lst (List.replicate k.toNat a).flatten]) else .fail
    | _ => .fail
  | _, _ => .fail
def gMod : Op2 := fun x y hp => match x, y with
  | .int i, .int j => if 0 < j then .ok (.int (i % j)) hp else .fail
  | _, _ => .fail
def gDiv : Op2 := fun x y hp => match x, y with
  | .int i, .int j => if 0 < j ∧ j.natAbs.log2 < 9000 then .ok (.int (i / j)) hp else .fail
  | _, _ => .fail
def gPow : Op2 := fun x y hp => match x, y with
  | .int i, .int j => if 0 ≤ j ∧ j ≤ 1000000 ∧ i.natAbs < 2 ^ 64 then .ok (.int (i ^ j.toNat)) hp else .fail
  | _, _ => .fail
def gNeg : Op1 := fun x hp => match x with
  | .int i => .ok (.int (-i)) hp
  | _ => .fail
section
variable {X : Cx} {K : PySem.W.Frag} {w : World} {ρ ρ' : List Addr} {H H' : Hp} {hp hp' : Ht}
theorem Snd2.or1 {r r' : R2} {g : Op2} (h : Snd2 K w r g) : Snd2 K w (fun x y H Q => r x y H Q ∨ r' x y H Q) g := fun ρ H hp x y d u v hp' Q a b c e q => .inl (h ρ H hp x y d u v hp' Q a b c e q)
abbrev rAdd4 (K : PySem.W.Frag) : R2 := fun x y H Q => (rI0 (fun i j => .int (i + j)) x y H Q ∨ (∃ i j, x = .str i ∧ y = .str j ∧ i.length + j.length ≤ sizeLine ∧ Q (.str (i ++ j)) H)) ∨ (rCatA K x y H Q ∨ rCat x y H Q)
theorem o_add : OpR X (binaryOp .Add) (rAdd4 X.K) := (op_add.or op_add_str).or (op_catA.or op_cat)
theorem s_add : Snd2 K w (rAdd4 K) gAdd := by
  intro ρ H hp x y d u v hp' Q h rx ry e q
  unfold gAdd at e
  split at e
  · cases e; cases rx; cases ry
    exact .inl (.inl ⟨_, _, rfl, rfl, q ρ H _ (Le.refl _ _ _) h (.int _)⟩)
  · split at e
    · cases e; cases rx; cases ry
      exact .inl (.inr ⟨_, _, rfl, rfl, by assumption, q ρ H _ (Le.refl _ _ _) h (.str _)⟩)
    · cases e
  · rename_i a b
    split at e
    · rename_i hz
      cases e
      cases rx with
      | @tup _ p vs s1 r1 =>
        cases ry with
        | @tup _ p2 ws s2 r2 =>
          refine .inr (.inl ⟨p, p2, vs, ws, rfl, rfl, s1, s2, by rw [← r1.length, ← r2.length]; exact hz, fun e => ?_, fun e1 e => ?_, fun _ _ p3 hn => ?_⟩)
          · subst e; cases r1
            exact q ρ H _ (Le.refl _ _ _) h (.tup s2 r2)
          · subst e; cases r2
            exact q ρ H _ (Le.refl _ _ _) h (.tup s1 (by rw [List.append_nil]; exact r1))
          · exact q ρ _ _ (Le.new0 _ hn) (h.tup hn) (.tup (SqT.of upd_same) ((r1.append r2).up (Le.new0 _ hn)))
    · cases e
  · rename_i n m
    split at e
    · rename_i a b e1 e2
      split at e
      · rename_i hz
        cases e
        cases rx with
        | @ref _ p f1 =>
          cases ry with
          | @ref _ p2 f2 =>
            obtain ⟨vs, z1, r1⟩ := h.obj n p _ f1 e1
            obtain ⟨ws, z2, r2⟩ := h.obj m p2 _ f2 e2
            refine .inr (.inr ⟨p, p2, vs, ws, rfl, rfl, z1, z2, by rw [← r1.length, ← r2.length]; exact hz, fun p3 hn => ?_⟩)
            obtain ⟨q1, q2⟩ := newLst h hn (r1.append r2)
            exact q _ _ _ (Le.new _ hn _) q1 q2
      · cases e
    · cases e
  · cases e
theorem s_sub : Snd2 K w (rI0 fun i j => .int (i - j)) gSub := by
  intro ρ H hp x y d u v hp' Q h rx ry e q
  unfold gSub at e
  split at e
  · cases e; cases rx; cases ry
    exact ⟨_, _, rfl, rfl, q ρ H _ (Le.refl _ _ _) h (.int _)⟩
  · cases e
abbrev rMul3 (K : PySem.W.Frag) : R2 := fun x y H Q => rI CMulW (fun i j => .int (i * j)) x y H Q ∨ (rRepA K x y H Q ∨ rRep x y H Q)
theorem o_mul : OpR X (binaryOp .Mult) (rMul3 X.K) := op_mulW.or (op_repA.or op_rep)
theorem s_mul : Snd2 K w (rMul3 K) gMul := by
  intro ρ H hp x y d u v hp' Q h rx ry e q
  unfold gMul at e
  split at e
  · split at e
    · rename_i hz
      cases e; cases rx; cases ry
      exact .inl ⟨_, _, rfl, rfl, hz, q ρ H _ (Le.refl _ _ _) h (.int _)⟩
    · cases e
  · rename_i a k
    split at e
    · rename_i hz
      obtain ⟨hs, h2, h3⟩ := hz
      obtain ⟨h1, _⟩ := hs.b63
      cases e
      cases ry
      cases rx with
      | @tup _ p vs s1 r1 =>
        refine .inr (.inl ⟨p, k, vs, rfl, rfl, s1, h1, by omega, fun e => ?_, fun hn e => fun p3 hn => ?_, fun _ e => ⟨h2, by rw [← r1.length]; exact h3, fun p3 hn => ?_⟩⟩)
        · refine q ρ H _ (Le.refl _ _ _) h (.tup s1 ?_)
          rcases e with e | e
          · subst e; cases r1
            rw [show (List.replicate k.toNat ([] : List D)).flatten = [] by simp]
            exact .nil
          · subst e
            have : (List.replicate (1 : Int).toNat a).flatten = a := by simp [show (1 : Int).toNat = 1 from rfl]
            rw [this]; exact r1
        · refine q ρ _ _ (Le.new0 _ hn) (h.tup hn) (.tup (SqT.of upd_same) ?_)
          rw [show k.toNat = 0 by omega]
          exact .nil
        · exact q ρ _ _ (Le.new0 _ hn) (h.tup hn) (.tup (SqT.of upd_same) ((r1.rep k.toNat).up (Le.new0 _ hn)))
    · cases e
  · rename_i n k
    split at e
    · rename_i a e1
      split at e
      · rename_i hz
        obtain ⟨hs, h3⟩ := hz
        obtain ⟨h1, h2⟩ := hs.b63
        cases e
        cases ry
        cases rx with
        | @ref _ p f1 =>
          obtain ⟨vs, z1, r1⟩ := h.obj n p _ f1 e1
          refine .inr (.inr ⟨p, k, vs, rfl, rfl, z1, h1, h2, by rw [← r1.length]; exact h3, fun p3 hn => ?_⟩)
          obtain ⟨q1, q2⟩ := newLst h hn (r1.rep k.toNat)
          exact q _ _ _ (Le.new _ hn _) q1 q2
      · cases e
    · cases e
  · cases e
theorem s_mod : Snd2 K w (rI (fun _ j => 0 < j) fun i j => .int (i % j)) gMod := by
  intro ρ H hp x y d u v hp' Q h rx ry e q
  unfold gMod at e
  split at e
  · split at e
    · cases e; cases rx; cases ry
      exact ⟨_, _, rfl, rfl, by assumption, q ρ H _ (Le.refl _ _ _) h (.int _)⟩
    · cases e
  · cases e
theorem s_div : Snd2 K w (rI CDivW fun i j => .int (i / j)) gDiv := by
  intro ρ H hp x y d u v hp' Q h rx ry e q
  unfold gDiv at e
  split at e
  · split at e
    · cases e; cases rx; cases ry
      exact ⟨_, _, rfl, rfl, by assumption, q ρ H _ (Le.refl _ _ _) h (.int _)⟩
    · cases e
  · cases e
theorem s_pow : Snd2 K w (rI CPow fun i j => .int (i ^ j.toNat)) gPow := by
  intro ρ H hp x y d u v hp' Q h rx ry e q
  unfold gPow at e
  split at e
  · split at e
    · cases e; cases rx; cases ry
      exact ⟨_, _, rfl, rfl, by assumption, q ρ H _ (Le.refl _ _ _) h (.int _)⟩
    · cases e
  · cases e
theorem s_neg : Snd1 K w (rU fun i => .int (-i)) gNeg := by
  intro ρ H hp x d u hp' Q h rx e q
  unfold gNeg at e
  split at e
  · cases e; cases rx
    exact ⟨_, rfl, q ρ H _ (Le.refl _ _ _) h (.int _)⟩
  · cases e
end
end DL
set_option Elab.async false
set_option linter.all false
set_option maxRecDepth 100000
set_option maxHeartbeats 4000000
namespace DL
open PySem PySem.Spec PyProof.Rows L2

/-! ### == -/
def scalD : D → D → Bool
  | .non, .non => true | .non, .int _ => true | .int _, .non => true | .non, .bl _ => true | .bl _, .non => true | .non, .str _ => true | .str _, .non => true
  | .int _, .int _ => true | .bl _, .bl _ => true | .str _, .str _ => true | .byt _, .byt _ => true
  | .int _, .str _ => true | .str _, .int _ => true | .bl _, .str _ => true | .str _, .bl _ => true
  | _, _ => false
def eqB (x y : D) (hp : Ht) : Option Bool := if scalD x y = true then some (decide (x = y)) else match py hp x, py hp y with
  | some p, some q => if SeqAt.shaped p = true ∧ SeqAt.shaped q = true then some (PyData.eqv p q) else none
  | _, _ => none
def gEq : Op2 := fun x y hp => match eqB x y hp with
  | some b => .ok (.bl b) hp
  | none => .fail
def gNe : Op2 := fun x y hp => match eqB x y hp with
  | some b => .ok (.bl (!b)) hp
  | none => .fail
def intsD : List D → Option (List Int)
  | [] => some []
  | .int i :: r => (intsD r).map (i :: ·)
  | _ => none
def gLt : Op2 := fun x y hp => match x, y with
  | .int i, .int j => .ok (.bl (decide (i < j))) hp
  | .tup a, .tup b => match intsD a, intsD b with
    | some ns, some ms => .ok (.bl (HT.lexLt ns ms)) hp
    | _, _ => .fail
  | .str i, .str j => .ok (.bl (decide (i.cps.toList < j.cps.toList))) hp
  | _, _ => .fail
def gLe : Op2 := fun x y hp => match x, y with
  | .int i, .int j => .ok (.bl (decide (i ≤ j))) hp
  | _, _ => .fail
def gGt : Op2 := fun x y hp => match x, y with
  | .int i, .int j => .ok (.bl (decide (j < i))) hp
  | _, _ => .fail
def gGe : Op2 := fun x y hp => match x, y with
  | .int i, .int j => .ok (.bl (decide (j ≤ i))) hp
  | _, _ => .fail
def gIs : Op2 := fun x y hp => match y with
  | .non => .ok (.bl (decide (x = .non))) hp
  | .bl b => match x with
    | .bl a => .ok (.bl (decide (a = b))) hp
    | _ => .fail
  | _ => .fail
def gIsNot : Op2 := fun x y hp => match y with
  | .non => .ok (.bl (!decide (x = .non))) hp
  | .bl b => match x with
    | .bl a => .ok (.bl (!decide (a = b))) hp
    | _ => .fail
  | _ => .fail
def flatD : D → Bool
  | .non | .bl _ | .int _ | .str _ => true
  | _ => false
/-- == of flat data -/
def eqF : D → D → Bool
  | .non, .non => true
  | .bl a, .bl b => a == b
  | .bl a, .int b => (if a then 1 else 0) == b
  | .int a, .bl b => a == (if b then 1 else 0)
  | .int a, .int b => a == b
  | .str a, .str b => a == b
  | _, _ => false
section
variable {X : Cx} {K : PySem.W.Frag} {w : World} {ρ ρ' : List Addr} {H H' : Hp} {hp hp' : Ht}
theorem scal_of {x y : D} {u v : V} (rx : R K ρ H x u) (ry : R K ρ H y v) (h : scalD x y = true) : scal u v = true ∧ decide (u = v) = decide (x = y) := by
  cases rx <;> cases ry <;> first
    | (exfalso; simp [scalD] at h; done)
    | refine ⟨rfl, ?_⟩
  all_goals simp
theorem eqB_rules {x y : D} {u v : V} {b : Bool} (h : HR K w ρ H hp) (rx : R K ρ H x u) (ry : R K ρ H y v) (e : eqB x y hp = some b) :
    (scal u v = true ∧ decide (u = v) = b) ∨ ∃ p q, Dp K H u p ∧ Dp K H v q ∧ SeqAt.shaped p = true ∧ SeqAt.shaped q = true ∧ PyData.eqv p q = b := by
  unfold eqB at e
  split at e
  · rename_i hs
    cases e
    obtain ⟨h1, h2⟩ := scal_of rx ry hs
    exact .inl ⟨h1, h2⟩
  · split at e
    · rename_i p q e1 e2
      split at e
      · rename_i hz
        cases e
        exact .inr ⟨p, q, py_dp h rx e1, py_dp h ry e2, hz.1, hz.2, rfl⟩
      · cases e
    · cases e
theorem s_eq : Snd2 K w (fun x y H Q => rEq x y H Q ∨ rEqD K x y H Q) gEq := by
  intro ρ H hp x y d u v hp' Q h rx ry e q
  unfold gEq at e
  split at e
  · rename_i b eb
    cases e
    have q' := q ρ H (.bl b) (Le.refl _ _ _) h (.bl b)
    rcases eqB_rules h rx ry eb with ⟨h1, h2⟩ | ⟨p, q2, h1, h2, h3, h4, h5⟩
    · exact .inl ⟨h1, by rw [h2]; exact q'⟩
    · exact .inr ⟨p, q2, h1, h2, h3, h4, by rw [h5]; exact q'⟩
  · cases e
theorem s_ne : Snd2 K w (fun x y H Q => rNe x y H Q ∨ rNeD K x y H Q) gNe := by
  intro ρ H hp x y d u v hp' Q h rx ry e q
  unfold gNe at e
  split at e
  · rename_i b eb
    cases e
    have q' := q ρ H (.bl (!b)) (Le.refl _ _ _) h (.bl _)
    rcases eqB_rules h rx ry eb with ⟨h1, h2⟩ | ⟨p, q2, h1, h2, h3, h4, h5⟩
    · exact .inl ⟨h1, by rw [h2]; exact q'⟩
    · exact .inr ⟨p, q2, h1, h2, h3, h4, by rw [h5]; exact q'⟩
  · cases e
theorem o_eq (hu : X.A.units + 64 < cLine) : OpR X (compareOp .Eq) (fun x y H Q => rEq x y H Q ∨ rEqD X.K x y H Q) := op_eq.or (op_eqD hu)
theorem o_ne (hu : X.A.units + 64 < cLine) : OpR X (compareOp .NotEq) (fun x y H Q => rNe x y H Q ∨ rNeD X.K x y H Q) := op_ne.or (op_neD hu)
theorem intsD_rs : ∀ {ds : List D} {vs : List V} {ns : List Int}, Rs K ρ H ds vs → intsD ds = some ns → vs = ns.map V.int ∧ ds = ns.map D.int
  | _, _, _, .nil, e => by cases e; exact ⟨rfl, rfl⟩
  | _, _, ns, .cons r t, e => by
    cases r with
    | int i =>
      simp only [intsD, Option.map_eq_some_iff] at e
      obtain ⟨ms, e1, rfl⟩ := e
      obtain ⟨h1, h2⟩ := intsD_rs t e1
      subst h1 h2
      exact ⟨rfl, rfl⟩
    | _ => simp [intsD] at e
abbrev rLt3 (K : PySem.W.Frag) : R2 := fun x y H Q => rI0 (fun i j => .bl (decide (i < j))) x y H Q ∨ (rLtT K x y H Q ∨ (∃ i j, x = .str i ∧ y = .str j ∧ Q (.bl (decide (i.cps.toList < j.cps.toList))) H))
theorem o_lt (hu : X.A.units < cLine) : OpR X (compareOp .Lt) (rLt3 X.K) := op_lt.or ((op_ltT hu).or op_lt_str)
theorem s_lt : Snd2 K w (rLt3 K) gLt := by
  intro ρ H hp x y d u v hp' Q h rx ry e q
  unfold gLt at e
  split at e
  · cases e; cases rx; cases ry
    exact .inl ⟨_, _, rfl, rfl, q ρ H _ (Le.refl _ _ _) h (.bl _)⟩
  · split at e
    · rename_i ns ms e1 e2
      cases e
      cases rx with
      | @tup _ p vs s1 r1 =>
        cases ry with
        | @tup _ p2 ws s2 r2 =>
          obtain ⟨rfl, _⟩ := intsD_rs r1 e1
          obtain ⟨rfl, _⟩ := intsD_rs r2 e2
          exact .inr (.inl ⟨p, p2, ns, ms, rfl, rfl, s1, s2, q ρ H _ (Le.refl _ _ _) h (.bl _)⟩)
    · cases e
  · cases e; cases rx; cases ry
    exact .inr (.inr ⟨_, _, rfl, rfl, q ρ H _ (Le.refl _ _ _) h (.bl _)⟩)
  · cases e
theorem s_int2 {g : Op2} {f : Int → Int → Bool} (hg : ∀ x y hp d hp', g x y hp = .ok d hp' → ∃ i j, x = .int i ∧ y = .int j ∧ d = .bl (f i j) ∧ hp' = hp) : Snd2 K w (rI0 fun i j => .bl (f i j)) g := by
  intro ρ H hp x y d u v hp' Q h rx ry e q
  obtain ⟨i, j, rfl, rfl, rfl, rfl⟩ := hg _ _ _ _ _ e
  cases rx; cases ry
  exact ⟨_, _, rfl, rfl, q ρ H _ (Le.refl _ _ _) h (.bl _)⟩
theorem s_le : Snd2 K w (rI0 fun i j => .bl (decide (i ≤ j))) gLe := s_int2 fun x y hp d hp' e => by
  unfold gLe at e
  split at e
  · cases e; exact ⟨_, _, rfl, rfl, rfl, rfl⟩
  · cases e
theorem s_gt : Snd2 K w (rI0 fun i j => .bl (decide (j < i))) gGt := s_int2 fun x y hp d hp' e => by
  unfold gGt at e
  split at e
  · cases e; exact ⟨_, _, rfl, rfl, rfl, rfl⟩
  · cases e
theorem s_ge : Snd2 K w (rI0 fun i j => .bl (decide (j ≤ i))) gGe := s_int2 fun x y hp d hp' e => by
  unfold gGe at e
  split at e
  · cases e; exact ⟨_, _, rfl, rfl, rfl, rfl⟩
  · cases e
theorem non_of {x : D} {u : V} (r : R K ρ H x u) : decide (u = V.non) = decide (x = D.non) := by cases r <;> simp
abbrev rIs2 : R2 := fun x y H Q => (y = .non ∧ Q (.bl (decide (x = .non))) H) ∨ (∃ a b, x = .bl a ∧ y = .bl b ∧ Q (.bl (decide (a = b))) H)
abbrev rIsNot2 : R2 := fun x y H Q => (y = .non ∧ Q (.bl (!decide (x = .non))) H) ∨ (∃ a b, x = .bl a ∧ y = .bl b ∧ Q (.bl (!decide (a = b))) H)
theorem o_is : OpR X (compareOp .Is) rIs2 := op_isN.or op_is_bl
theorem o_isnot : OpR X (compareOp .IsNot) rIsNot2 := op_notN.or op_isnot_bl
theorem s_is : Snd2 K w rIs2 gIs := by
  intro ρ H hp x y d u v hp' Q h rx ry e q
  unfold gIs at e
  split at e
  · cases e; cases ry
    exact .inl ⟨rfl, by rw [non_of rx]; exact q ρ H _ (Le.refl _ _ _) h (.bl _)⟩
  · split at e
    · cases e; cases ry; cases rx
      exact .inr ⟨_, _, rfl, rfl, q ρ H _ (Le.refl _ _ _) h (.bl _)⟩
    · cases e
  · cases e
theorem s_isnot : Snd2 K w rIsNot2 gIsNot := by
  intro ρ H hp x y d u v hp' Q h rx ry e q
  unfold gIsNot at e
  split at e
  · cases e; cases ry
    exact .inl ⟨rfl, by rw [non_of rx]; exact q ρ H _ (Le.refl _ _ _) h (.bl _)⟩
  · split at e
    · cases e; cases ry; cases rx
      exact .inr ⟨_, _, rfl, rfl, q ρ H _ (Le.refl _ _ _) h (.bl _)⟩
    · cases e
  · cases e

/-! ### in a list, a tuple -/
theorem eqF_of {x y : D} {u v : V} (rx : R K ρ H x u) (ry : R K ρ H y v) (fx : flatD x = true) (fy : flatD y = true) : flatV u = true ∧ eqV v u = eqF y x := by
  cases rx <;> first | (exfalso; simp [flatD] at fx; done) | skip
  all_goals (cases ry <;> first | (exfalso; simp [flatD] at fy; done) | exact ⟨rfl, rfl⟩)
theorem flat_of {x : D} {u : V} (rx : R K ρ H x u) (fx : flatD x = true) : flatV u = true := by
  cases rx <;> first | rfl | (exfalso; simp [flatD] at fx; done)
theorem inF_of {x : D} {u : V} (rx : R K ρ H x u) (fx : flatD x = true) : ∀ {ys : List D} {vs : List V}, Rs K ρ H ys vs → ys.all flatD = true → vs.all flatV = true ∧ inV u vs = ys.any (fun y => eqF y x)
  | _, _, .nil, _ => ⟨rfl, rfl⟩
  | _, _, .cons r t, f => by
    simp only [List.all_cons, Bool.and_eq_true] at f
    obtain ⟨h1, h2⟩ := inF_of rx fx t f.2
    have h3 := (eqF_of rx r fx f.1).2
    refine ⟨by simp only [List.all_cons, flat_of r f.1, h1]; rfl, ?_⟩
    unfold inV at h2 ⊢
    simp only [List.any_cons, h3, h2]
end
/-- x in a list or tuple: flat data by themselves, other data by the library's == -/
def inB (x : D) (ys : List D) (hp : Ht) : Option Bool := if flatD x = true ∧ ys.all flatD = true then some (ys.any fun y => eqF y x) else match py hp x, pyWs (pyR 4 hp) ys with
  | some p, some qs => if SeqAt.shaped p = true ∧ SeqAt.shaped (.list qs) = true then some (qs.any fun z => PyData.eqv z p) else none
  | _, _ => none
abbrev rInA (K : PySem.W.Frag) (neg : Bool) : R2 := fun x y H Q => rIn K neg x y H Q ∨ ∃ a d ds, y = .ref a ∧ Dp K H x d ∧ (∃ vs, (SqL K H a vs ∨ SqT K H a vs) ∧ DpAll K H vs ds) ∧ SeqAt.shaped d = true ∧ SeqAt.shaped (.list ds) = true ∧ Q (.bl (if neg then !ds.any fun z => PyData.eqv z d else ds.any fun z => PyData.eqv z d)) H
section
variable {X : Cx} {K : PySem.W.Frag} {w : World} {ρ ρ' : List Addr} {H H' : Hp} {hp hp' : Ht}
theorem o_inA (hu : X.A.units + 65 < cLine) : OpR X (compareOp .In) (rInA X.K false) := by
  refine op_in_seq.or ?_
  intro pins s σ H x y v u Q I rx ry h
  obtain ⟨a, d, ds, rfl, hd, ⟨vs, hv, hds⟩, sd, se, q⟩ := h
  obtain ⟨as, r1⟩ := Dp.reads I d x v hd rx
  rcases hv with hv | hv
  · obtain ⟨bs, r2⟩ := Dp.reads I (.list ds) (.ref a) u (.lst hv hds) ry
    exact SeqAt.in_list_reads r2 r1 (SeqAt.canLay_of_shaped se) (SeqAt.canLay_of_shaped sd) (room_in_shaped sd hu) ⟨.bl _, H, I, rfl, q⟩
  · obtain ⟨bs, r2⟩ := Dp.reads I (.tuple ds) (.ref a) u (.tup hv hds) ry
    exact SeqAt.in_tuple_reads r2 r1 (SeqAt.canLay_of_shaped se) (SeqAt.canLay_of_shaped sd) (room_in_shaped sd hu) ⟨.bl _, H, I, rfl, q⟩
theorem o_notinA (hu : X.A.units + 65 < cLine) : OpR X (compareOp .NotIn) (rInA X.K true) := by
  refine op_notIn_seq.or ?_
  intro pins s σ H x y v u Q I rx ry h
  obtain ⟨a, d, ds, rfl, hd, ⟨vs, hv, hds⟩, sd, se, q⟩ := h
  obtain ⟨as, r1⟩ := Dp.reads I d x v hd rx
  rcases hv with hv | hv
  · obtain ⟨bs, r2⟩ := Dp.reads I (.list ds) (.ref a) u (.lst hv hds) ry
    exact SeqAt.notIn_list_reads r2 r1 (SeqAt.canLay_of_shaped se) (SeqAt.canLay_of_shaped sd) (room_in_shaped sd hu) ⟨.bl _, H, I, rfl, q⟩
  · obtain ⟨bs, r2⟩ := Dp.reads I (.tuple ds) (.ref a) u (.tup hv hds) ry
    exact SeqAt.notIn_tuple_reads r2 r1 (SeqAt.canLay_of_shaped se) (SeqAt.canLay_of_shaped sd) (room_in_shaped sd hu) ⟨.bl _, H, I, rfl, q⟩
theorem inB_rules (neg : Bool) {x : D} {ys : List D} {u : V} {a : Addr} {vs : List V} {b : Bool} {Q : VK} (h : HR K w ρ H hp) (rx : R K ρ H x u) (hv : SqL K H a vs ∨ SqT K H a vs) (ry : Rs K ρ H ys vs) (e : inB x ys hp = some b)
    (q : Q (.bl (if neg then !b else b)) H) : rInA K neg u (.ref a) H Q := by
  unfold inB at e
  split at e
  · rename_i hf
    cases e
    obtain ⟨h1, h2⟩ := inF_of rx hf.1 ry hf.2
    exact .inl ⟨a, vs, rfl, hv, flat_of rx hf.1, h1, by rw [h2]; exact q⟩
  · split at e
    · rename_i p qs e1 e2
      split at e
      · rename_i hz
        cases e
        exact .inr ⟨a, p, qs, rfl, py_dp h rx e1, ⟨vs, hv, pyWs_dp (pyR_dp h 4) ys vs qs ry e2⟩, hz.1, hz.2, by cases neg <;> exact q⟩
      · cases e
    · cases e
end

/-! ### subscripts -/
def gIx : Op2 := fun x y hp => match x, y with
  | .tup xs, .int i => match atI xs i with
    | some d => .ok d hp
    | none => .fail
  | .str z, .int i => if z.length ≤ sizeLine then match atI z.cps.toList i with
      | some c => .ok (.str ⟨#[c]⟩) hp
      | none => .fail
    else .fail
  | .ref n, .int i => match lsOf hp n with
    | some xs => match atI xs i with
      | some d => .ok d hp
      | none => .fail
    | none => .fail
  | _, _ => .fail
section
variable {X : Cx} {K : PySem.W.Frag} {w : World} {ρ ρ' : List Addr} {H H' : Hp} {hp hp' : Ht}
theorem at_rs {xs : List D} {vs : List V} (r : Rs K ρ H xs vs) {i : Int} {d : D} (e : atI xs i = some d) : ∃ v, atI vs i = some v ∧ R K ρ H d v := by
  unfold atI at e ⊢
  rw [← r.length]
  cases hj : ixN xs.length i with
  | none => rw [hj] at e; cases e
  | some j =>
    rw [hj] at e
    exact r.get e
theorem s_ix : Snd2 K w (rIx K) gIx := by
  intro ρ H hp x y d u v hp' Q h rx ry e q
  unfold gIx at e
  split at e
  · split at e
    · rename_i d' e1
      cases e; cases ry
      cases rx with
      | @tup _ p vs s1 r1 =>
        obtain ⟨z, e2, r2⟩ := at_rs r1 e1
        exact .inr (.inl ⟨p, vs, _, z, rfl, rfl, s1, e2, q ρ H _ (Le.refl _ _ _) h r2⟩)
    · cases e
  · split at e
    · rename_i hz
      split at e
      · rename_i c e1
        cases e; cases ry; cases rx
        exact .inr (.inr ⟨_, _, c, rfl, rfl, hz, e1, q ρ H _ (Le.refl _ _ _) h (.str _)⟩)
      · cases e
    · cases e
  · split at e
    · rename_i xs ex
      split at e
      · rename_i d' e1
        cases e; cases ry
        cases rx with
        | @ref _ p f1 =>
          obtain ⟨vs, s1, r1⟩ := lsOf_sq h f1 ex
          obtain ⟨z, e2, r2⟩ := at_rs r1 e1
          exact .inl ⟨p, vs, _, z, rfl, rfl, s1, e2, q ρ H _ (Le.refl _ _ _) h r2⟩
      · cases e
    · cases e
  · cases e
end

/-! ### slices -/
abbrev PF := En → Ht → Out (Option Int)
def fNoPart : PF := fun _ hp => .ok none hp
def fPart (f : EF) : PF := fun env hp => (f env hp).bind fun x hp1 => match x with
  | .int i => .ok (some i) hp1
  | _ => .fail
def cutD (xs : List D) (lo hi : Option Int) : List D := (xs.drop (HT.sIx xs.length 0 lo)).take (HT.sIx xs.length xs.length hi - HT.sIx xs.length 0 lo)
def gSl (x : D) (lo hi : Option Int) (hp : Ht) : Out D := match x with
  | .tup xs => .ok (.tup (cutD xs lo hi)) hp
  | .ref n => match lsOf hp n with
    | some xs => .ok (.ref hp.length) (hp ++ [.lst (cutD xs lo hi)])
    | none => .fail
  | .str z => if z.length ≤ sizeLine then .ok (.str (cutS z lo hi)) hp else .fail
  | _ => .fail
def fSl (f : EF) (l u : PF) : EF := fun env hp => (f env hp).bind fun x hp1 => (l env hp1).bind fun lo hp2 => (u env hp2).bind fun hi hp3 => gSl x lo hi hp3

section
variable {X : Cx} {K : PySem.W.Frag} {w : World} {ρ ρ' : List Addr} {H H' : Hp} {hp hp' : Ht}
def tP (K : PySem.W.Frag) (w : World) (f : PF) : TO := fun σ H Q => ∃ ρ env hp o hp', At K w ρ H env hp σ ∧ f env hp = .ok o hp' ∧ ∀ ρ' H', Le K ρ H ρ' H' → HR K w ρ' H' hp' → Q o H'
theorem poW {e : Option Expr} {t t' : TO} (h : PO X e t) (i : ∀ σ H Q, t' σ H Q → t σ H Q) : PO X e t' := ⟨fun pins s σ H Q I q => h.run pins s σ H Q I (i σ H Q q)⟩
theorem dp_none : PO X none (tP X.K X.w fNoPart) := by
  refine poW po_none fun σ H Q h => ?_
  obtain ⟨ρ, env, hp, o, hp', a, e, q⟩ := h
  cases e
  exact q ρ H (Le.refl _ _ _) a.hr
theorem dp_some {e : Expr} {f : EF} (h : PE X e (tE X.K X.w f)) : PO X (some e) (tP X.K X.w (fPart f)) := by
  refine poW (po_some h) fun σ H Q h => ?_
  obtain ⟨ρ, env, hp, o, hp', a, e, q⟩ := h
  obtain ⟨x, hp1, e1, e2⟩ := Out.bind_ok e
  refine ⟨ρ, env, hp, x, hp1, a, e1, fun ρ1 H1 v l1 h1 r1 => ?_⟩
  cases x with
  | int i => cases e2; cases r1; exact ⟨_, rfl, q ρ1 H1 l1 h1⟩
  | _ => cases e2
abbrev rSl3 (K : PySem.W.Frag) : V → Option Int → Option Int → Hp → VK → Prop := fun x lo hi H Q => rSlA K x lo hi H Q ∨ (rSlL K x lo hi H Q ∨ rSlS x lo hi H Q)
theorem o_sl : SlR X (rSl3 X.K) := sl_tupA.or (sl_list.or sl_str)
theorem cut_rs {xs : List D} {vs : List V} (r : Rs K ρ H xs vs) (lo hi : Option Int) : Rs K ρ H (cutD xs lo hi) (cutV vs lo hi) := by
  unfold cutD cutV
  rw [r.length]
  exact (r.drop _).take _
theorem cut_whole (xs : List D) (lo hi : Option Int) (h : HT.sIx xs.length 0 lo = 0 ∧ HT.sIx xs.length xs.length hi = xs.length) : cutD xs lo hi = xs := by
  unfold cutD
  rw [h.1, h.2]
  simp
theorem d_slice {e : Expr} {lo hi : Option Expr} {f : EF} {l u : PF} {pos p2 : Pos} (he : PE X e (tE X.K X.w f)) (hl : PO X lo (tP X.K X.w l)) (hu : PO X hi (tP X.K X.w u)) : PE X (.Subscript e (.Slice lo hi none p2) pos) (tE X.K X.w (fSl f l u)) := by
  refine peW (pe_slice o_sl he hl hu) fun σ H Q h => ?_
  obtain ⟨ρ, env, hp, d, hp', a, e, q⟩ := h
  obtain ⟨x, hp1, e1, e2⟩ := Out.bind_ok e
  obtain ⟨o1, hp2, e3, e4⟩ := Out.bind_ok e2
  obtain ⟨o2, hp3, e5, e6⟩ := Out.bind_ok e4
  refine ⟨ρ, env, hp, x, hp1, a, e1, fun ρ1 H1 v l1 h1 r1 => ⟨ρ1, env, hp1, o1, hp2, a.up l1 h1, e3, fun ρ2 H2 l2 h2 => ⟨ρ2, env, hp2, o2, hp3, a.up (l1.trans l2) h2, e5, fun ρ3 H3 l3 h3 => ?_⟩⟩⟩
  have r3 := r1.up (l2.trans l3)
  have l0 := (l1.trans l2).trans l3
  unfold gSl at e6
  split at e6
  · cases e6
    cases r3 with
    | @tup _ p vs s1 r =>
      refine .inl ⟨p, vs, rfl, s1, fun hw => ?_, fun hw p3 hn => ?_⟩
      · refine q ρ3 H3 _ l0 h3 (.tup s1 ?_)
        rw [cut_whole _ o1 o2 (by rw [r.length]; exact hw)]
        exact r
      · exact q ρ3 _ _ (l0.trans (Le.new0 _ hn)) (h3.tup hn) (.tup (SqT.of upd_same) ((cut_rs r o1 o2).up (Le.new0 _ hn)))
  · split at e6
    · rename_i xs ex
      cases e6
      cases r3 with
      | @ref n p f1 =>
        obtain ⟨vs, s1, r⟩ := lsOf_sq h3 f1 ex
        refine .inr (.inl ⟨p, vs, rfl, s1, fun p3 hn => ?_⟩)
        obtain ⟨q1, q2⟩ := newLst h3 hn (cut_rs r o1 o2)
        exact q _ _ _ (l0.trans (Le.new _ hn _)) q1 q2
    · cases e6
  · split at e6
    · rename_i hz
      cases e6
      cases r3
      exact .inr (.inr ⟨_, rfl, hz, q ρ3 H3 _ l0 h3 (.str _)⟩)
    · cases e6
  · cases e6

/-! ### calls of built-ins -/
theorem callI {fa : AF} {g : OpN} {r : List V → Hp → VK → Prop} (hs : SndN X.K X.w r g) {σ : L2.St} {H : Hp} {Q : VK} (h : tE X.K X.w (fCall g fa) σ H Q) : tCB r (tA X.K X.w fa) σ H Q := by
  obtain ⟨ρ, env, hp, d, hp', a, e, q⟩ := h
  obtain ⟨xs, hp1, e1, e2⟩ := Out.bind_ok e
  refine ⟨ρ, env, hp, xs, hp1, a, e1, fun ρ1 H1 us l1 h1 r1 => ?_⟩
  exact hs ρ1 H1 hp1 xs d us hp' Q h1 r1 e2 fun ρ3 H3 z l3 h3 r3 => q ρ3 H3 z (l1.trans l3) h3 r3
theorem d_callB {id : String} {e : Expr} {es : List Expr} {x : Str} {p pos : Pos} {r : List V → Hp → VK → Prop} {g : OpN} {fa : AF} (hc : CallR X (.builtin id) r) (hs : SndN X.K X.w r g) (hm : X.mg x = none) (ha : PA X (e :: es) (tA X.K X.w fa))
    (hv : bootBuiltins x = some (.builtin id) := by decide +kernel) (hg : Gl X x := by rfl) (hn : x ≠ "__name__" := by decide) (hdb : (x == ("__debug__" : Str)) = false := by decide)
    (he : starEach (e :: es) X.env = (false, eval e X.env) :: starEach es X.env := by rfl) (hpl : (backTo pos (starEach es X.env)).any (·.1) = false := by rfl) : PE X (.Call (.Name x p) (e :: es) [] pos) (tE X.K X.w (fCall g fa)) :=
  peW (pe_callB hc hg hm hv ha hn hdb he hpl) fun _ _ _ h => callI hs h
theorem d_callTy {id : String} {e : Expr} {es : List Expr} {x : Str} {p pos : Pos} {r : List V → Hp → VK → Prop} {g : OpN} {fa : AF} (hc : CallR X (.type id) r) (hs : SndN X.K X.w r g) (hm : X.mg x = none) (ha : PA X (e :: es) (tA X.K X.w fa))
    (hv : bootBuiltins x = some (.type id) := by decide +kernel) (hg : Gl X x := by rfl) (hn : x ≠ "__name__" := by decide) (hdb : (x == ("__debug__" : Str)) = false := by decide)
    (he : starEach (e :: es) X.env = (false, eval e X.env) :: starEach es X.env := by rfl) (hpl : (backTo pos (starEach es X.env)).any (·.1) = false := by rfl) : PE X (.Call (.Name x p) (e :: es) [] pos) (tE X.K X.w (fCall g fa)) :=
  peW (pe_callTy hc hg hm hv ha hn hdb he hpl) fun _ _ _ h => callI hs h
end
def lenD (d : D) (hp : Ht) : Option Nat := match d with
  | .str x => if x.length ≤ sizeLine then some x.length else none
  | .byt x => if x.size ≤ sizeLine then some x.size else none
  | .tup xs => some xs.length
  | .ref n => (lsOf hp n).map List.length
  | _ => none
def gLen : OpN := fun xs hp => match xs with
  | [x] => match lenD x hp with
    | some n => .ok (.int n) hp
    | none => .fail
  | _ => .fail
def gAbs : OpN := fun xs hp => match xs with
  | [.int i] => .ok (.int (if i < 0 then -i else i)) hp
  | _ => .fail
def gInt : OpN := fun xs hp => match xs with
  | [.int i] => .ok (.int i) hp
  | [.bl b] => .ok (.int (if b then 1 else 0)) hp
  | _ => .fail
def gMax2 : OpN := fun xs hp => match xs with
  | [.int i, .int j] => .ok (.int (if j > i then j else i)) hp
  | _ => .fail
def gMin2 : OpN := fun xs hp => match xs with
  | [.int i, .int j] => .ok (.int (if j < i then j else i)) hp
  | _ => .fail
/-- a list of ints -/
def intsL (d : D) (hp : Ht) : Option (List Int) := match d with
  | .ref n => (lsOf hp n).bind intsD
  | _ => none
def minI (n : Int) (ns : List Int) : Int := ns.foldl (fun a b => if b < a then b else a) n
def maxI (n : Int) (ns : List Int) : Int := ns.foldl (fun a b => if a < b then b else a) n
def gMinL : OpN := fun xs hp => match xs with
  | [x] => match intsL x hp with
    | some (n :: ns) => .ok (.int (minI n ns)) hp
    | _ => .fail
  | _ => .fail
def gMaxL : OpN := fun xs hp => match xs with
  | [x] => match intsL x hp with
    | some (n :: ns) => .ok (.int (maxI n ns)) hp
    | _ => .fail
  | _ => .fail
def gSumI : OpN := fun xs hp => match xs with
  | [x] => match intsL x hp with
    | some ns => .ok (.int ns.sum) hp
    | _ => .fail
  | _ => .fail
def blsD : List D → Option (List Bool)
  | [] => some []
  | .bl i :: r => (blsD r).map (i :: ·)
  | _ => none
def blsL (d : D) (hp : Ht) : Option (List Bool) := match d with
  | .ref n => (lsOf hp n).bind blsD
  | _ => none
def gAll : OpN := fun xs hp => match xs with
  | [x] => match blsL x hp with
    | some bs => .ok (.bl (bs.all id)) hp
    | _ => .fail
  | _ => .fail
def gAny : OpN := fun xs hp => match xs with
  | [x] => match blsL x hp with
    | some bs => .ok (.bl (bs.any id)) hp
    | _ => .fail
  | _ => .fail
def sortI (ns : List Int) : List Int := ns.mergeSort (fun a b => decide (a ≤ b))
def gSortI : OpN := fun xs hp => match xs with
  | [x] => match intsL x hp with
    | some ns => .ok (.ref hp.length) (hp ++ [.lst ((sortI ns).map D.int)])
    | _ => .fail
  | _ => .fail
def gTuple : OpN := fun xs hp => match xs with
  | [.tup ys] => .ok (.tup ys) hp
  | [.ref n] => match lsOf hp n with
    | some ys => .ok (.tup ys) hp
    | none => .fail
  | _ => .fail
def gList : OpN := fun xs hp => match xs with
  | [.tup ys] => .ok (.ref hp.length) (hp ++ [.lst ys])
  | [.ref n] => match lsOf hp n with
    | some ys => .ok (.ref hp.length) (hp ++ [.lst ys])
    | none => .fail
  | _ => .fail
/-- the class of data -/
def tyN (d : D) (hp : Ht) : Option String := match d with
  | .non => some "NoneType"
  | .bl _ => some "bool"
  | .int _ => some "int"
  | .str _ => some "str"
  | .byt _ => some "bytes"
  | .tup _ => some "tuple"
  | .ref n => match hp[n]? with
    | some (.lst _) => some "list"
    | some (.fro _) => some "list"
    | some (.dct _) => some "dict"
    | none => none
  | .ty _ => none
def isiT (a b : String) : Bool := a == b || (a == "bool" && b == "int")
def gIsi : OpN := fun xs hp => match xs with
  | [x, .ty n] => match tyN x hp with
    | some t => if n ∈ ["tuple", "int", "bool", "str", "list", "dict", "bytes"] then .ok (.bl (isiT t n)) hp else .fail
    | none => .fail
  | _ => .fail
section
variable {X : Cx} {K : PySem.W.Frag} {w : World} {ρ ρ' : List Addr} {H H' : Hp} {hp hp' : Ht}
theorem lenV {x : D} {v : V} {n : Nat} (h : HR K w ρ H hp) (r : R K ρ H x v) (e : lenD x hp = some n) : LenV K v H n := by
  cases r with
  | str x =>
    simp only [lenD] at e
    split at e
    · cases e; exact ⟨by assumption, rfl⟩
    · cases e
  | byt x =>
    simp only [lenD] at e
    split at e
    · cases e; exact ⟨by assumption, rfl⟩
    · cases e
  | @tup ds a vs s r =>
    cases e
    exact .inr ⟨vs, s, r.length⟩
  | @ref n a e1 =>
    simp only [lenD, Option.map_eq_some_iff] at e
    obtain ⟨xs, e2, rfl⟩ := e
    obtain ⟨vs, s, r⟩ := lsOf_sq h e1 e2
    exact .inl ⟨vs, s, r.length⟩
  | _ => simp [lenD] at e
theorem s_len : SndN K w (fun xs H Q => ∃ x n, xs = [x] ∧ LenV K x H n ∧ Q (.int n) H) gLen := by
  intro ρ H hp xs d us hp' Q h r e q
  unfold gLen at e
  split at e
  · split at e
    · rename_i n en
      cases e
      cases r with
      | cons r1 r2 => cases r2; exact ⟨_, n, rfl, lenV h r1 en, q ρ H _ (Le.refl _ _ _) h (.int _)⟩
    · cases e
  · cases e
theorem s_abs : SndN K w (fun xs H Q => ∃ i, xs = [.int i] ∧ Q (.int (if i < 0 then -i else i)) H) gAbs := by
  intro ρ H hp xs d us hp' Q h r e q
  unfold gAbs at e
  split at e
  · cases e
    cases r with
    | cons r1 r2 => cases r2; cases r1; exact ⟨_, rfl, q ρ H _ (Le.refl _ _ _) h (.int _)⟩
  · cases e
theorem s_int : SndN K w (fun xs H Q => (∃ i, xs = [.int i] ∧ Q (.int i) H) ∨ ∃ k, xs = [.bl k] ∧ Q (.int (if k then 1 else 0)) H) gInt := by
  intro ρ H hp xs d us hp' Q h r e q
  unfold gInt at e
  split at e
  · cases e
    cases r with
    | cons r1 r2 => cases r2; cases r1; exact .inl ⟨_, rfl, q ρ H _ (Le.refl _ _ _) h (.int _)⟩
  · cases e
    cases r with
    | cons r1 r2 => cases r2; cases r1; exact .inr ⟨_, rfl, q ρ H _ (Le.refl _ _ _) h (.int _)⟩
  · cases e
theorem s_max2 : SndN K w (fun xs H Q => ∃ i j, xs = [.int i, .int j] ∧ Q (.int (if j > i then j else i)) H) gMax2 := by
  intro ρ H hp xs d us hp' Q h r e q
  unfold gMax2 at e
  split at e
  · cases e
    cases r with
    | cons r1 r2 => cases r2 with
      | cons r2 r3 => cases r3; cases r1; cases r2; exact ⟨_, _, rfl, q ρ H _ (Le.refl _ _ _) h (.int _)⟩
  · cases e
theorem s_min2 : SndN K w (fun xs H Q => ∃ i j, xs = [.int i, .int j] ∧ Q (.int (if j < i then j else i)) H) gMin2 := by
  intro ρ H hp xs d us hp' Q h r e q
  unfold gMin2 at e
  split at e
  · cases e
    cases r with
    | cons r1 r2 => cases r2 with
      | cons r2 r3 => cases r3; cases r1; cases r2; exact ⟨_, _, rfl, q ρ H _ (Le.refl _ _ _) h (.int _)⟩
  · cases e
theorem intsL_sq {x : D} {v : V} {ns : List Int} (h : HR K w ρ H hp) (r : R K ρ H x v) (e : intsL x hp = some ns) : ∃ a, v = .ref a ∧ SqL K H a (ns.map V.int) := by
  cases r with
  | @ref n a e1 =>
    simp only [intsL, Option.bind_eq_some_iff] at e
    obtain ⟨xs, e2, e3⟩ := e
    obtain ⟨vs, s, r⟩ := lsOf_sq h e1 e2
    obtain ⟨rfl, _⟩ := intsD_rs r e3
    exact ⟨a, rfl, s⟩
  | _ => simp [intsL] at e
theorem blsD_rs : ∀ {ds : List D} {vs : List V} {bs : List Bool}, Rs K ρ H ds vs → blsD ds = some bs → vs = bs.map V.bl
  | _, _, _, .nil, e => by cases e; rfl
  | _, _, ns, .cons r t, e => by
    cases r with
    | bl i =>
      simp only [blsD, Option.map_eq_some_iff] at e
      obtain ⟨ms, e1, rfl⟩ := e
      rw [blsD_rs t e1]
      rfl
    | _ => simp [blsD] at e
theorem blsL_sq {x : D} {v : V} {ns : List Bool} (h : HR K w ρ H hp) (r : R K ρ H x v) (e : blsL x hp = some ns) : ∃ a, v = .ref a ∧ SqL K H a (ns.map V.bl) := by
  cases r with
  | @ref n a e1 =>
    simp only [blsL, Option.bind_eq_some_iff] at e
    obtain ⟨xs, e2, e3⟩ := e
    obtain ⟨vs, s, r⟩ := lsOf_sq h e1 e2
    rw [blsD_rs r e3] at s
    exact ⟨a, rfl, s⟩
  | _ => simp [blsL] at e
theorem minI_spec : ∀ (ns : List Int) (n : Int), minI n ns ∈ n :: ns ∧ ∀ y ∈ n :: ns, minI n ns ≤ y
  | [], n => ⟨List.mem_cons_self, fun y hy => by simp at hy; rw [hy]; exact Int.le_refl _⟩
  | m :: r, n => by
    have ih := minI_spec r (if m < n then m else n)
    have e : minI n (m :: r) = minI (if m < n then m else n) r := rfl
    rw [e]
    generalize hz : minI (if m < n then m else n) r = z at ih ⊢
    obtain ⟨i1, i2⟩ := ih
    have i3 := i2 _ List.mem_cons_self
    refine ⟨?_, fun y hy => ?_⟩
    · rcases List.mem_cons.mp i1 with i1 | i1
      · by_cases c : m < n
        · rw [if_pos c] at i1; rw [i1]; simp
        · rw [if_neg c] at i1; rw [i1]; simp
      · simp [i1]
    · by_cases c : m < n
      · rw [if_pos c] at i3
        rcases List.mem_cons.mp hy with rfl | hy
        · omega
        · rcases List.mem_cons.mp hy with rfl | hy
          · exact i3
          · exact i2 _ (List.mem_cons_of_mem _ hy)
      · rw [if_neg c] at i3
        rcases List.mem_cons.mp hy with rfl | hy
        · exact i3
        · rcases List.mem_cons.mp hy with rfl | hy
          · omega
          · exact i2 _ (List.mem_cons_of_mem _ hy)
theorem maxI_spec : ∀ (ns : List Int) (n : Int), maxI n ns ∈ n :: ns ∧ ∀ y ∈ n :: ns, y ≤ maxI n ns
  | [], n => ⟨List.mem_cons_self, fun y hy => by simp at hy; rw [hy]; exact Int.le_refl _⟩
  | m :: r, n => by
    have ih := maxI_spec r (if n < m then m else n)
    have e : maxI n (m :: r) = maxI (if n < m then m else n) r := rfl
    rw [e]
    generalize hz : maxI (if n < m then m else n) r = z at ih ⊢
    obtain ⟨i1, i2⟩ := ih
    have i3 := i2 _ List.mem_cons_self
    refine ⟨?_, fun y hy => ?_⟩
    · rcases List.mem_cons.mp i1 with i1 | i1
      · by_cases c : n < m
        · rw [if_pos c] at i1; rw [i1]; simp
        · rw [if_neg c] at i1; rw [i1]; simp
      · simp [i1]
    · by_cases c : n < m
      · rw [if_pos c] at i3
        rcases List.mem_cons.mp hy with rfl | hy
        · omega
        · rcases List.mem_cons.mp hy with rfl | hy
          · exact i3
          · exact i2 _ (List.mem_cons_of_mem _ hy)
      · rw [if_neg c] at i3
        rcases List.mem_cons.mp hy with rfl | hy
        · exact i3
        · rcases List.mem_cons.mp hy with rfl | hy
          · omega
          · exact i2 _ (List.mem_cons_of_mem _ hy)
theorem s_minL : SndN K w (rMin K) gMinL := by
  intro ρ H hp xs d us hp' Q h r e q
  unfold gMinL at e
  split at e
  · split at e
    · rename_i x n ns en
      cases e
      cases r with
      | cons r1 r2 =>
        cases r2
        obtain ⟨a, rfl, s⟩ := intsL_sq h r1 en
        refine ⟨a, n :: ns, rfl, s, Nat.succ_pos _, fun m hm hle => ?_⟩
        obtain ⟨h1, h2⟩ := minI_spec ns n
        have : m = minI n ns := Int.le_antisymm (hle _ h1) (h2 _ hm)
        rw [this]
        exact q ρ H _ (Le.refl _ _ _) h (.int _)
    · cases e
  · cases e
theorem s_maxL : SndN K w (rMax K) gMaxL := by
  intro ρ H hp xs d us hp' Q h r e q
  unfold gMaxL at e
  split at e
  · split at e
    · rename_i x n ns en
      cases e
      cases r with
      | cons r1 r2 =>
        cases r2
        obtain ⟨a, rfl, s⟩ := intsL_sq h r1 en
        refine ⟨a, n :: ns, rfl, s, Nat.succ_pos _, fun m hm hle => ?_⟩
        obtain ⟨h1, h2⟩ := maxI_spec ns n
        have : m = maxI n ns := Int.le_antisymm (h2 _ hm) (hle _ h1)
        rw [this]
        exact q ρ H _ (Le.refl _ _ _) h (.int _)
    · cases e
  · cases e
theorem s_sumI : SndN K w (rSum K) gSumI := by
  intro ρ H hp xs d us hp' Q h r e q
  unfold gSumI at e
  split at e
  · split at e
    · rename_i x ns en
      cases e
      cases r with
      | cons r1 r2 =>
        cases r2
        obtain ⟨a, rfl, s⟩ := intsL_sq h r1 en
        exact ⟨a, ns, rfl, s, q ρ H _ (Le.refl _ _ _) h (.int _)⟩
    · cases e
  · cases e
theorem s_all : SndN K w (rAll K) gAll := by
  intro ρ H hp xs d us hp' Q h r e q
  unfold gAll at e
  split at e
  · split at e
    · rename_i x ns en
      cases e
      cases r with
      | cons r1 r2 =>
        cases r2
        obtain ⟨a, rfl, s⟩ := blsL_sq h r1 en
        exact ⟨a, ns, rfl, s, q ρ H _ (Le.refl _ _ _) h (.bl _)⟩
    · cases e
  · cases e
theorem s_any : SndN K w (rAny K) gAny := by
  intro ρ H hp xs d us hp' Q h r e q
  unfold gAny at e
  split at e
  · split at e
    · rename_i x ns en
      cases e
      cases r with
      | cons r1 r2 =>
        cases r2
        obtain ⟨a, rfl, s⟩ := blsL_sq h r1 en
        exact ⟨a, ns, rfl, s, q ρ H _ (Le.refl _ _ _) h (.bl _)⟩
    · cases e
  · cases e
theorem sortI_perm (ns : List Int) : (sortI ns).Perm ns := List.mergeSort_perm _ _
theorem sortI_le (ns : List Int) : (sortI ns).Pairwise (· ≤ ·) := by
  have h := List.pairwise_mergeSort (le := fun a b : Int => decide (a ≤ b)) (fun a b c h1 h2 => by simp at h1 h2 ⊢; omega) (fun a b => by simp; omega) ns
  exact h.imp fun {a b} h => by simpa using h
theorem s_sortI : SndN K w (rSortedI K) gSortI := by
  intro ρ H hp xs d us hp' Q h r e q
  unfold gSortI at e
  split at e
  · split at e
    · rename_i x ns en
      cases e
      cases r with
      | cons r1 r2 =>
        cases r2
        obtain ⟨a, rfl, s⟩ := intsL_sq h r1 en
        refine ⟨a, ns, rfl, s, fun ns' p hp2 hs hn => ?_⟩
        have e : ns' = sortI ns := PySem.W.ksm_same (hp2.trans (sortI_perm ns).symm) hs (sortI_le ns)
        subst e
        obtain ⟨q1, q2⟩ := newLst h hn (Rs.ints (K := K) (ρ := ρ) (H := H) (sortI ns))
        exact q _ _ _ (Le.new _ hn _) q1 q2
    · cases e
  · cases e
theorem s_tuple : SndN K w (fun xs H Q => ∃ p ys, xs = [.ref p] ∧ ((SqL K H p ys ∧ ∀ l, H l = none → Q (.ref l) (upd H l (.tup ys))) ∨ (SqT K H p ys ∧ Q (.ref p) H))) gTuple := by
  intro ρ H hp xs d us hp' Q h r e q
  unfold gTuple at e
  split at e
  · cases e
    cases r with
    | cons r1 r2 =>
      cases r2
      cases r1 with
      | @tup _ a vs s r => exact ⟨a, vs, rfl, .inr ⟨s, q ρ H _ (Le.refl _ _ _) h (.tup s r)⟩⟩
  · split at e
    · rename_i ys ey
      cases e
      cases r with
      | cons r1 r2 =>
        cases r2
        cases r1 with
        | @ref _ a e1 =>
          obtain ⟨vs, s, r⟩ := lsOf_sq h e1 ey
          exact ⟨a, vs, rfl, .inl ⟨s, fun l hn => q ρ _ _ (Le.new0 _ hn) (h.tup hn) (.tup (SqT.of upd_same) (r.up (Le.new0 _ hn)))⟩⟩
    · cases e
  · cases e
theorem s_list : SndN K w (fun xs H Q => ∃ p ys, xs = [.ref p] ∧ (SqL K H p ys ∨ SqT K H p ys) ∧ ∀ l, H l = none → Q (.ref l) (upd H l (.lst ys))) gList := by
  intro ρ H hp xs d us hp' Q h r e q
  unfold gList at e
  split at e
  · cases e
    cases r with
    | cons r1 r2 =>
      cases r2
      cases r1 with
      | @tup _ a vs s r =>
        refine ⟨a, vs, rfl, .inr s, fun l hn => ?_⟩
        obtain ⟨q1, q2⟩ := newLst h hn r
        exact q _ _ _ (Le.new _ hn _) q1 q2
  · split at e
    · rename_i ys ey
      cases e
      cases r with
      | cons r1 r2 =>
        cases r2
        cases r1 with
        | @ref _ a e1 =>
          obtain ⟨vs, s, r⟩ := lsOf_sq h e1 ey
          refine ⟨a, vs, rfl, .inl s, fun l hn => ?_⟩
          obtain ⟨q1, q2⟩ := newLst h hn r
          exact q _ _ _ (Le.new _ hn _) q1 q2
    · cases e
  · cases e

/-! ### isinstance -/
def TyY (K : PySem.W.Frag) (H : Hp) (x : V) (T : String) : Prop := TyX K H x (.type T) ∨ (T = "dict" ∧ ∃ a es, x = .ref a ∧ H a = some (.ext (DctP a es)))
theorem call_isiY : CallR X (.builtin "isinstance") (fun xs H Q => ∃ x T n b, xs = [x, .ty n] ∧ TyY X.K H x T ∧ kitB T n = some b ∧ Q (.bl b) H) := by
  intro pins s σ H xs us Q I r h
  obtain ⟨x, T, n, b, rfl, ty, e, q⟩ := h
  rcases ty with ty | ⟨rfl, a, es, rfl, ha⟩
  · exact call_isi pins s σ H _ us Q I r ⟨x, .ty n, .type T, .type n, b, rfl, .ty n, ty, kit_ty e, q⟩
  · obtain ⟨u1, u2, rfl, r1, r2⟩ := vals2 r
    cases r2
    cases r1
    obtain ⟨⟨_, _, o, xs, ep, h1, h2, _⟩, _⟩ := (show ObjOk X.prog X.w H s.heap a (.ext (DctP a es)) from I.hok a _ ha)
    exact PySem.W.kia_one PySem.W.kitx_dict I.kIn ⟨o, h1, h2.1⟩ (kit_ty e) (fun z => nomatch z) fun tk => ⟨.bl b, H, I.tok tk, rfl, q⟩
theorem isiT_ok : ∀ t ∈ ["NoneType", "tuple", "int", "bool", "str", "list", "dict", "bytes"], ∀ n ∈ ["tuple", "int", "bool", "str", "list", "dict", "bytes"], kitB t n = some (isiT t n) := by decide +kernel
theorem tyN_y {x : D} {v : V} {T : String} (h : HR K w ρ H hp) (r : R K ρ H x v) (e : tyN x hp = some T) : TyY K H v T ∧ T ∈ ["NoneType", "tuple", "int", "bool", "str", "list", "dict", "bytes"] := by
  cases r with
  | non => cases e; exact ⟨.inl (.base .non), by decide⟩
  | bl b => cases e; exact ⟨.inl (.base (.bl b)), by decide⟩
  | int b => cases e; exact ⟨.inl (.base (.int b)), by decide⟩
  | str b => cases e; exact ⟨.inl (.base (.str b)), by decide⟩
  | byt b => cases e; exact ⟨.inl (.byt b), by decide⟩
  | ty b => cases e
  | @tup ds a vs s r =>
    cases e
    refine ⟨.inl ?_, by decide⟩
    rcases s with (s | ⟨o, s⟩) | ⟨o, its, n, hk, hc, _⟩
    · exact .base (.tup s)
    · exact .fTuple s
    · exact .kTuple hk hc
  | @ref n a e1 =>
    simp only [tyN] at e
    split at e
    · rename_i xs ex
      cases e
      obtain ⟨vs, e2, r2⟩ := h.obj n a _ e1 ex
      exact ⟨.inl (.base (.lst e2)), by decide⟩
    · rename_i xs ex
      cases e
      obtain ⟨vs, e2, r2⟩ := h.obj n a _ e1 ex
      refine ⟨.inl ?_, by decide⟩
      rcases e2 with ⟨o, e2⟩ | ⟨o, its, n, hk, hc, _⟩
      · exact .base (.frz e2)
      · exact .kList hk hc
    · rename_i xs ex
      cases e
      obtain ⟨es, e2, _⟩ := h.obj n a _ e1 ex
      exact ⟨.inr ⟨rfl, a, es, rfl, e2⟩, by decide⟩
    · cases e
theorem s_isi : SndN K w (fun xs H Q => ∃ x T n b, xs = [x, .ty n] ∧ TyY K H x T ∧ kitB T n = some b ∧ Q (.bl b) H) gIsi := by
  intro ρ H hp xs d us hp' Q h r e q
  unfold gIsi at e
  split at e
  · rename_i x n
    split at e
    · rename_i t et
      split at e
      · rename_i hn
        cases e
        cases r with
        | cons r1 r2 =>
          cases r2 with
          | cons r2 r3 =>
            cases r3
            cases r2
            obtain ⟨h1, h2⟩ := tyN_y h r1 et
            exact ⟨_, t, n, _, rfl, h1, isiT_ok t h2 n hn, q ρ H _ (Le.refl _ _ _) h (.bl _)⟩
      · cases e
    · cases e
  · cases e
end
end DL
set_option Elab.async false
set_option linter.all false
set_option maxRecDepth 100000
set_option maxHeartbeats 4000000
namespace DL
open PySem PySem.Spec PyProof.Rows L2

/-! ### methods of built-in classes -/
abbrev OpM := D → List D → Ht → Out D
def isL (d : D) (hp : Ht) : Bool := match d with
  | .ref n => (lsOf hp n).isSome
  | _ => false
def isS (d : D) (_ : Ht) : Bool := match d with
  | .str _ => true
  | _ => false
def fBM (ty : D → Ht → Bool) (g : OpM) (fo : EF) (fa : AF) : EF := fun env hp => (fo env hp).bind fun x hp1 => if ty x hp1 = true then (fa env hp1).bind fun xs hp2 => g x xs hp2 else .fail
def SndM (K : PySem.W.Frag) (w : World) (r : V → List V → Hp → VK → Prop) (g : OpM) : Prop := ∀ (ρ : List Addr) (H : Hp) (hp : Ht) (x : D) (xs : List D) (d : D) (u : V) (us : List V) (hp' : Ht) (Q : VK), HR K w ρ H hp → R K ρ H x u → Rs K ρ H xs us → g x xs hp = .ok d hp' →
  (∀ ρ' H' z, Le K ρ H ρ' H' → HR K w ρ' H' hp' → R K ρ' H' d z → Q z H') → r u us H Q
def TyIs (K : PySem.W.Frag) (w : World) (T : String) (ty : D → Ht → Bool) : Prop := ∀ ρ H hp x v, HR K w ρ H hp → R K ρ H x v → ty x hp = true → tyV K T v H
theorem isL_ty {K : PySem.W.Frag} {w : World} : TyIs K w "list" isL := fun ρ H hp x v h r e => by
  cases r with
  | @ref n a e1 =>
    obtain ⟨xs, e2⟩ := Option.isSome_iff_exists.mp e
    obtain ⟨vs, s, _⟩ := lsOf_sq h e1 e2
    exact .inl ⟨rfl, vs, s⟩
  | _ => simp [isL] at e
theorem isS_ty {K : PySem.W.Frag} {w : World} : TyIs K w "str" isS := fun ρ H hp x v h r e => by
  cases r with
  | str x => exact rfl
  | _ => simp [isS] at e
section
variable {X : Cx} {o e : Expr} {es : List Expr} {name : Str} {apos cpos : Pos} {T id : String} {r : V → List V → Hp → VK → Prop} {g : OpM} {fo : EF} {fa : AF} {ty : D → Ht → Bool}
theorem d_bm (pa : PlainAttrs T) (slot : Slot T name id) (hty : typeOf (.builtin id) = pure (.type "method_descriptor")) (hm : MtR X id r) (hs : SndM X.K X.w r g) (ht : TyIs X.K X.w T ty) (ho : PE X o (tE X.K X.w fo)) (ha : PA X (e :: es) (tA X.K X.w fa))
    (hbase : attributeBase o name X.env (eval o X.env) = eval o X.env := by rfl)
    (hfew : ((backTo cpos (starEach (e :: es) X.env)).all (fun x => !x.1) && (backToKw cpos (keywordEach [] X.env)).all (fun x => x.1.isSome)
      && decide ((e :: es).length + ([] : List Keyword).length + (if ([] : List Keyword).isEmpty then 0 else 1) < 30)) = true := by rfl)
    (hline : (apos.endLine == cpos.line) = true := by rfl) (hst : starEach (e :: es) X.env = (false, eval e X.env) :: starEach es X.env := by rfl) (hplain : (backTo cpos (starEach es X.env)).any (·.1) = false := by rfl) :
    PE X (.Call (.Attribute o name apos) (e :: es) [] cpos) (tE X.K X.w (fBM ty g fo fa)) := by
  refine peW (pe_bm pa slot hty hm ho ha hbase hfew hline hst hplain) fun σ H Q h => ?_
  obtain ⟨ρ, env, hp, d, hp', a, e, q⟩ := h
  obtain ⟨x, hp1, e1, e2⟩ := Out.bind_ok e
  refine ⟨ρ, env, hp, x, hp1, a, e1, fun ρ1 H1 v l1 h1 r1 => ?_⟩
  split at e2
  · rename_i hx
    obtain ⟨xs, hp2, e3, e4⟩ := Out.bind_ok e2
    refine ⟨ht ρ1 H1 hp1 x v h1 r1 hx, ρ1, env, hp1, xs, hp2, a.up l1 h1, e3, fun ρ2 H2 us l2 h2 r2 => ?_⟩
    exact hs ρ2 H2 hp2 x xs d v us hp' Q h2 (r1.up l2) r2 e4 fun ρ3 H3 z l3 h3 r3 => q ρ3 H3 z ((l1.trans l2).trans l3) h3 r3
  · cases e2
theorem d_bm0 (pa : PlainAttrs T) (slot : Slot T name id) (hty : typeOf (.builtin id) = pure (.type "method_descriptor")) (hm : MtR X id r) (hs : SndM X.K X.w r g) (ht : TyIs X.K X.w T ty) (ho : PE X o (tE X.K X.w fo))
    (hbase : attributeBase o name X.env (eval o X.env) = eval o X.env := by rfl) (hline : (apos.endLine == cpos.line) = true := by rfl) : PE X (.Call (.Attribute o name apos) [] [] cpos) (tE X.K X.w (fBM ty g fo fNil)) := by
  refine peW (pe_bm0 pa slot hty hm ho hbase hline) fun σ H Q h => ?_
  obtain ⟨ρ, env, hp, d, hp', a, e, q⟩ := h
  obtain ⟨x, hp1, e1, e2⟩ := Out.bind_ok e
  refine ⟨ρ, env, hp, x, hp1, a, e1, fun ρ1 H1 v l1 h1 r1 => ?_⟩
  split at e2
  · rename_i hx
    refine ⟨ht ρ1 H1 hp1 x v h1 r1 hx, ?_⟩
    exact hs ρ1 H1 hp1 x [] d v [] hp' Q h1 r1 .nil e2 fun ρ3 H3 z l3 h3 r3 => q ρ3 H3 z (l1.trans l3) h3 r3
  · cases e2
end
def gAppend : OpM := fun x xs hp => match x, xs with
  | .ref n, [y] => match hp[n]? with
    | some (.lst ys) => if ys.length < sizeLine then .ok .non (hp.set n (.lst (ys ++ [y]))) else .fail
    | _ => .fail
  | _, _ => .fail
def gExtend : OpM := fun x xs hp => match x, xs with
  | .ref n, [.ref m] => match hp[n]?, hp[m]? with
    | some (.lst ys), some (.lst zs) => if ys.length + zs.length ≤ sizeLine then .ok .non (hp.set n (.lst (ys ++ zs))) else .fail
    | _, _ => .fail
  | _, _ => .fail
def gPop : OpM := fun x xs hp => match x, xs with
  | .ref n, [] => match hp[n]? with
    | some (.lst ys) => match ys[ys.length - 1]? with
      | some y => .ok y (hp.set n (.lst ys.dropLast))
      | none => .fail
    | _ => .fail
  | _, _ => .fail
def gPopAt : OpM := fun x xs hp => match x, xs with
  | .ref n, [.int i] => match hp[n]? with
    | some (.lst ys) => if Sm i then match seqIndex? i ys.length with
        | some k => match ys[k]? with
          | some y => .ok y (hp.set n (.lst (ys.eraseIdx k)))
          | none => .fail
        | none => .fail
      else .fail
    | _ => .fail
  | _, _ => .fail
section
variable {X : Cx} {K : PySem.W.Frag} {w : World} {ρ ρ' : List Addr} {H H' : Hp} {hp hp' : Ht}
theorem putLst {n : Nat} {p : Addr} {ys zs : List D} {vs ws : List V} (h : HR K w ρ H hp) (f1 : ρ[n]? = some p) (ex : hp[n]? = some (.lst ys)) (e : H p = some (.lst vs)) (r : Rs K ρ H zs ws) :
    Le K ρ H ρ (upd H p (.lst ws)) ∧ HR K w ρ (upd H p (.lst ws)) (hp.set n (.lst zs)) := by
  have l : Le K ρ H ρ (upd H p (.lst ws)) := Le.put e (fun _ => nofun) (fun _ _ => nofun)
  exact ⟨l, h.put f1 ex rfl rfl ⟨ws, upd_same, r.up l⟩⟩
theorem s_append : SndM K w rAppend gAppend := by
  intro ρ H hp x xs d u us hp' Q h rx rs e q
  unfold gAppend at e
  split at e
  · split at e
    · rename_i n y ys ex
      split at e
      · rename_i hz
        cases e
        cases rx with
        | @ref _ p f1 =>
          cases rs with
          | cons ry rt =>
            cases rt
            obtain ⟨vs, e1, r1⟩ := h.obj _ p _ f1 ex
            obtain ⟨l, h2⟩ := putLst h f1 ex e1 (r1.append (.cons ry .nil))
            exact ⟨p, vs, _, rfl, rfl, e1, by rw [← r1.length]; exact hz, q _ _ _ l h2 .non⟩
      · cases e
    · cases e
  · cases e
theorem s_extend : SndM K w rExtend gExtend := by
  intro ρ H hp x xs d u us hp' Q h rx rs e q
  unfold gExtend at e
  split at e
  · split at e
    · rename_i n m ys zs ex ez
      split at e
      · rename_i hz
        cases e
        cases rx with
        | @ref _ p f1 =>
          cases rs with
          | cons ry rt =>
            cases rt
            cases ry with
            | @ref _ p2 f2 =>
              obtain ⟨vs, e1, r1⟩ := h.obj _ p _ f1 ex
              obtain ⟨ws, e2, r2⟩ := h.obj _ p2 _ f2 ez
              obtain ⟨l, h2⟩ := putLst h f1 ex e1 (r1.append r2)
              exact ⟨p, p2, vs, ws, rfl, rfl, e1, e2, by rw [← r1.length, ← r2.length]; exact hz, q _ _ _ l h2 .non⟩
      · cases e
    · cases e
  · cases e
theorem dropLast_rs {ys : List D} {vs : List V} (r : Rs K ρ H ys vs) : Rs K ρ H ys.dropLast vs.dropLast := by
  rw [List.dropLast_eq_take, List.dropLast_eq_take, r.length]
  exact r.take _
theorem s_pop : SndM K w rPop gPop := by
  intro ρ H hp x xs d u us hp' Q h rx rs e q
  unfold gPop at e
  split at e
  · split at e
    · rename_i n ys ex
      split at e
      · rename_i y ey
        cases e
        cases rs
        cases rx with
        | @ref _ p f1 =>
          obtain ⟨vs, e1, r1⟩ := h.obj _ p _ f1 ex
          obtain ⟨v, ev, rv⟩ := r1.get ey
          obtain ⟨l, h2⟩ := putLst h f1 ex e1 (dropLast_rs r1)
          exact ⟨p, vs, v, rfl, rfl, e1, by rw [← r1.length]; exact ev, q _ _ _ l h2 (rv.up l)⟩
      · cases e
    · cases e
  · cases e
theorem s_popAt : SndM K w rPopAt gPopAt := by
  intro ρ H hp x xs d u us hp' Q h rx rs e q
  unfold gPopAt at e
  split at e
  · split at e
    · rename_i n i ys ex
      split at e
      · rename_i hz
        split at e
        · rename_i k ek
          split at e
          · rename_i y ey
            cases e
            cases rx with
            | @ref _ p f1 =>
              cases rs with
              | cons ry rt =>
                cases rt
                cases ry
                obtain ⟨vs, e1, r1⟩ := h.obj _ p _ f1 ex
                obtain ⟨v, ev, rv⟩ := r1.get ey
                obtain ⟨l, h2⟩ := putLst h f1 ex e1 (r1.eraseIdx k)
                exact ⟨p, vs, _, k, v, rfl, rfl, e1, hz.b63.1, hz.b63.2, by rw [← r1.length]; exact ek, ev, q _ _ _ l h2 (rv.up l)⟩
          · cases e
        · cases e
      · cases e
    · cases e
  · cases e
/-- xs[::-1] of a list -/
def fRevL (f : EF) : EF := fun env hp => (f env hp).bind fun x hp1 => match x with
  | .ref n => match lsOf hp1 n with
    | some xs => .ok (.ref hp1.length) (hp1 ++ [.lst xs.reverse])
    | none => .fail
  | _ => .fail
theorem d_revL {e : Expr} {p1 p2 p3 pos : Pos} {k : Nat} {f : EF} (he : PE X e (tE X.K X.w f)) : PE X (.Subscript e (.Slice none none (some (.UnaryOp .USub (.Constant (.int 1) k p1) p2)) p3) pos) (tE X.K X.w (fRevL f)) := by
  refine peW (pe_revL he) fun σ H Q h => ?_
  obtain ⟨ρ, env, hp, d, hp', a, e, q⟩ := h
  obtain ⟨x, hp1, e1, e2⟩ := Out.bind_ok e
  refine ⟨ρ, env, hp, x, hp1, a, e1, fun ρ1 H1 v l1 h1 r1 => ?_⟩
  split at e2
  · split at e2
    · rename_i n xs ex
      cases e2
      cases r1 with
      | @ref _ p f1 =>
        obtain ⟨vs, s, r⟩ := lsOf_sq h1 f1 ex
        refine ⟨p, vs, rfl, s, fun p3 hn => ?_⟩
        obtain ⟨q1, q2⟩ := newLst h1 hn r.reverse
        exact q _ _ _ (l1.trans (Le.new _ hn _)) q1 q2
    · cases e2
  · cases e2
end

/-! ### targets -/
/-- a value goes to a target -/
abbrev GF := D → En → Ht → Out En
def gN (i : Nat) : GF := fun d env hp => .ok (env.set i (some d)) hp
abbrev GFs := List D → En → Ht → Out En
def gNil' : GFs := fun ds env hp => match ds with
  | [] => .ok env hp
  | _ => .fail
def gCons' (g : GF) (r : GFs) : GFs := fun ds env hp => match ds with
  | d :: ds => (g d env hp).bind fun env1 hp1 => r ds env1 hp1
  | _ => .fail
def gT (n : Nat) (r : GFs) : GF := fun d env hp => match d with
  | .tup ds => if ds.length = n then r ds env hp else .fail
  | _ => .fail
def Same' (is : List Nat) (σ σ' : L2.St) : Prop := σ'.length = σ.length ∧ ∀ j, j ∉ is → σ'[j]? = σ[j]?
def tG (K : PySem.W.Frag) (w : World) (is : List Nat) (g : GF) : TG := fun v σ H Q => ∃ ρ env hp d env' hp', At K w ρ H env hp σ ∧ R K ρ H d v ∧ g d env hp = .ok env' hp' ∧ ∀ ρ' H' σ', Le K ρ H ρ' H' → At K w ρ' H' env' hp' σ' → Same' is σ σ' → Q σ' H'
def tGs (K : PySem.W.Frag) (w : World) (is : List Nat) (g : GFs) : TGs := fun vs σ H Q => ∃ ρ env hp ds env' hp', At K w ρ H env hp σ ∧ Rs K ρ H ds vs ∧ g ds env hp = .ok env' hp' ∧ ∀ ρ' H' σ', Le K ρ H ρ' H' → At K w ρ' H' env' hp' σ' → Same' is σ σ' → Q σ' H'
section
variable {X : Cx} {K : PySem.W.Frag} {w : World} {ρ ρ' : List Addr} {H H' : Hp} {hp hp' : Ht} {pos : Pos}
theorem Same'.refl (is : List Nat) (σ : L2.St) : Same' is σ σ := ⟨rfl, fun _ _ => rfl⟩
theorem Same'.set (i : Nat) (v : Option V) (σ : L2.St) : Same' [i] σ (σ.set i v) := ⟨by simp, fun j hj => by
  rw [List.getElem?_set_ne (by intro e; exact hj (by simp [e]))]⟩
theorem Same'.trans {is js : List Nat} {a b c : L2.St} (h : Same' is a b) (k : Same' js b c) : Same' (is ++ js) a c := ⟨k.1.trans h.1, fun j hj => by
  rw [k.2 j (fun z => hj (List.mem_append_right _ z)), h.2 j (fun z => hj (List.mem_append_left _ z))]⟩
theorem pgW {e : Expr} {t t' : TG} (h : PG X e t) (i : ∀ v σ H Q, t' v σ H Q → t v σ H Q) : PG X e t' := ⟨fun pins s σ H v u Q I r q => h.run pins s σ H v u Q I r (i v σ H Q q)⟩
theorem pgsW {e : List Expr} {t t' : TGs} (h : PGs X e t) (i : ∀ v σ H Q, t' v σ H Q → t v σ H Q) : PGs X e t' := ⟨fun pins s σ H v u Q I r q => h.run pins s σ H v u Q I r (i v σ H Q q)⟩
theorem dg_name (i : Nat) {x : Str} (hN : X.N.Nodup) (hi : X.N[i]? = some x := by rfl) (hx : Loc X.env.scope x := by first | exact Or.inl rfl | exact Or.inr rfl) (hf : X.fn x = true ∨ X.env.scope.names.lookup x = some .local := by first | exact .inl rfl | exact .inr rfl | assumption) : PG X (.Name x pos) (tG X.K X.w [i] (gN i)) := by
  refine pgW (pg_name hN hi hx hf) fun v σ H Q h => ?_
  obtain ⟨ρ, env, hp, d, env', hp', a, r, e, q⟩ := h
  cases e
  exact q ρ H _ (Le.refl _ _ _) ⟨a.hr, a.er.set r⟩ (Same'.set i _ σ)
theorem dgs_nil : PGs X [] (tGs X.K X.w [] gNil') := by
  refine pgsW pgs_nil fun v σ H Q h => ?_
  obtain ⟨ρ, env, hp, d, env', hp', a, r, e, q⟩ := h
  unfold gNil' at e
  split at e
  · cases e; cases r
    exact ⟨rfl, q ρ H _ (Le.refl _ _ _) a (Same'.refl _ _)⟩
  · cases e
theorem dgs_cons {is js : List Nat} {e : Expr} {es : List Expr} {g : GF} {gr : GFs} (h1 : PG X e (tG X.K X.w is g)) (h2 : PGs X es (tGs X.K X.w js gr)) (hs : (assignEach (e :: es) X.env).map (·.2) = assign e X.env :: (assignEach es X.env).map (·.2) := by rfl) : PGs X (e :: es) (tGs X.K X.w (is ++ js) (gCons' g gr)) := by
  refine pgsW (pgs_cons h1 h2 hs) fun v σ H Q h => ?_
  obtain ⟨ρ, env, hp, d, env', hp', a, r, e, q⟩ := h
  unfold gCons' at e
  split at e
  · obtain ⟨env1, hp1, e1, e2⟩ := Out.bind_ok e
    cases r with
    | cons r1 r2 =>
      refine ⟨_, _, rfl, ρ, env, hp, _, env1, hp1, a, r1, e1, fun ρ1 H1 σ1 l1 a1 s1 => ?_⟩
      exact ⟨ρ1, env1, hp1, _, env', hp', a1, r2.up l1, e2, fun ρ2 H2 σ2 l2 a2 s2 => q ρ2 H2 σ2 (l1.trans l2) a2 (s1.trans s2)⟩
  · cases e
theorem dg_tup (n : Nat) {is : List Nat} {es : List Expr} {k : Nat} {gr : GFs} (hc : X.calm = true) (h : PGs X es (tGs X.K X.w is gr)) (hn : (assignEach es X.env).length = n := by rfl) (hst : (assignEach es X.env).findIdx? (·.1) = none := by rfl) : PG X (.Tuple es k pos) (tG X.K X.w is (gT n gr)) := by
  refine pgW (pg_tup hc h hn hst) fun v σ H Q h => ?_
  obtain ⟨ρ, env, hp, d, env', hp', a, r, e, q⟩ := h
  unfold gT at e
  split at e
  · split at e
    · rename_i hl
      cases r with
      | @tup ds p vs s r =>
        exact ⟨p, vs, rfl, s, by rw [← r.length]; exact hl, ρ, env, hp, _, env', hp', a, r, e, fun ρ1 H1 σ1 l1 a1 s1 => q ρ1 H1 σ1 l1 a1 s1⟩
    · cases e
  · cases e
/-- xs[i] = v -/
def gSet : D → D → D → Ht → Option Ht := fun o i v hp => match o, i with
  | .ref n, .int k => match hp[n]? with
    | some (.lst xs) => match ixN xs.length k with
      | some j => some (hp.set n (.lst (xs.set j v)))
      | none => none
    | _ => none
  | _, _ => none
def gSub' (fo fi : EF) (st : D → D → D → Ht → Option Ht) : GF := fun d env hp => (fo env hp).bind fun o hp1 => (fi env hp1).bind fun i hp2 => match st o i d hp2 with
  | some hp3 => .ok env hp3
  | none => .fail
def SndS (K : PySem.W.Frag) (w : World) (t : TSet) (st : D → D → D → Ht → Option Ht) : Prop := ∀ ρ H hp o i v ov iv vv hp' (Q : Hp → Prop), HR K w ρ H hp → R K ρ H o ov → R K ρ H i iv → R K ρ H v vv → st o i v hp = some hp' →
  (∀ ρ' H', Le K ρ H ρ' H' → HR K w ρ' H' hp' → Q H') → t ov iv vv H Q
theorem putLst' {n : Nat} {p : Addr} {ys zs : List D} {vs ws : List V} (h : HR K w ρ H hp) (f1 : ρ[n]? = some p) (ex : hp[n]? = some (.lst ys)) (e : H p = some (.lst vs)) (r : Rs K ρ H zs ws) :
    Le K ρ H ρ (upd H p (.lst ws)) ∧ HR K w ρ (upd H p (.lst ws)) (hp.set n (.lst zs)) := by
  have l : Le K ρ H ρ (upd H p (.lst ws)) := Le.put e (fun _ => nofun) (fun _ _ => nofun)
  exact ⟨l, h.put f1 ex rfl rfl ⟨ws, upd_same, r.up l⟩⟩
theorem s_set : SndS K w rSetL gSet := by
  intro ρ H hp o i v ov iv vv hp' Q h ro ri rv e q
  unfold gSet at e
  split at e
  · split at e
    · rename_i xs ex
      split at e
      · rename_i j ej
        cases e
        cases ri
        cases ro with
        | @ref _ p f1 =>
          obtain ⟨vs, e1, r1⟩ := h.obj _ p _ f1 ex
          obtain ⟨l, h2⟩ := putLst' h f1 ex e1 (r1.set rv j)
          exact ⟨p, vs, _, j, rfl, rfl, e1, by rw [← r1.length]; exact ej, q _ _ l h2⟩
      · cases e
    · cases e
  · cases e
theorem dg_sub {o i : Expr} {fo fi : EF} {t : TSet} {st : D → D → D → Ht → Option Ht} (hst : PSet X t) (hs : SndS X.K X.w t st) (ho : PE X o (tE X.K X.w fo)) (hi : PE X i (tE X.K X.w fi))
    (ha : ∀ v, assign (.Subscript o i pos) X.env v = (do
      let ov ← holding [v] (eval o X.env)
      let iv ← holding [v, ov] (eval i X.env)
      standAt pos
      holding [v, ov, iv] (setItem ov iv v)
      release [v, ov, iv] []) := by intro _; rfl) : PG X (.Subscript o i pos) (tG X.K X.w [] (gSub' fo fi st)) := by
  refine pgW (pg_sub ho hi hst ha) fun v σ H Q h => ?_
  obtain ⟨ρ, env, hp, d, env', hp', a, r, e, q⟩ := h
  obtain ⟨x, hp1, e1, e2⟩ := Out.bind_ok e
  obtain ⟨y, hp2, e3, e4⟩ := Out.bind_ok e2
  refine ⟨ρ, env, hp, x, hp1, a, e1, fun ρ1 H1 u l1 h1 r1 => ⟨ρ1, env, hp1, y, hp2, a.up l1 h1, e3, fun ρ2 H2 u2 l2 h2 r2 => ?_⟩⟩
  split at e4
  · rename_i hp3 e5
    cases e4
    refine hs ρ2 H2 hp2 x y d u u2 v hp' _ h2 (r1.up l2) r2 (r.up (l1.trans l2)) e5 fun ρ3 H3 l3 h3 => ?_
    exact q ρ3 H3 σ ((l1.trans l2).trans l3) (a.up ((l1.trans l2).trans l3) h3) (Same'.refl _ _)
  · cases e4

/-! ### statements -/
theorem dss_nil : PSs X [] (tS X.K X.w fun env hp => .nx env hp) := by
  refine pssW pss_nil fun D σ H h => ?_
  obtain ⟨ρ, env, hp, a, q⟩ := h
  exact q ρ H σ (Le.refl _ _ _) a
/-- one behind another -/
def sSeq (a b : SF) : SF := fun env hp => match a env hp with
  | .nx env1 hp1 => b env1 hp1
  | x => x
theorem dss_cons {st : Stmt} {rest : List Stmt} {a b : SF} (h1 : PS X st (tS X.K X.w a)) (h2 : PSs X rest (tS X.K X.w b)) : PSs X (st :: rest) (tS X.K X.w (sSeq a b)) := by
  refine pssW (pss_cons h1 h2) fun D σ H h => ?_
  obtain ⟨ρ, env, hp, at', q⟩ := h
  refine ⟨ρ, env, hp, at', ?_⟩
  unfold sSeq at q
  cases e : a env hp with
  | nx env1 hp1 =>
    rw [e] at q
    intro ρ1 H1 σ1 l1 a1
    refine ⟨ρ1, env1, hp1, a1, ?_⟩
    simp only at q
    cases e2 : b env1 hp1 with
    | nx env2 hp2 => rw [e2] at q; exact fun ρ2 H2 σ2 l2 a2 => q ρ2 H2 σ2 (l1.trans l2) a2
    | bk env2 hp2 => rw [e2] at q; exact fun ρ2 H2 σ2 l2 a2 => q ρ2 H2 σ2 (l1.trans l2) a2
    | ct env2 hp2 => rw [e2] at q; exact fun ρ2 H2 σ2 l2 a2 => q ρ2 H2 σ2 (l1.trans l2) a2
    | rt d2 hp2 => rw [e2] at q; exact fun ρ2 H2 σ2 l2 a2 => q ρ2 H2 σ2 (l1.trans l2) a2
    | exc _ _ => rw [e2] at q; exact q
    | fail => rw [e2] at q; exact q
  | bk env1 hp1 => rw [e] at q; exact q
  | ct env1 hp1 => rw [e] at q; exact q
  | rt env1 hp1 => rw [e] at q; exact q
  | exc _ _ => rw [e] at q; exact q
  | fail => rw [e] at q; exact q
theorem dss_one {st : Stmt} {a : SF} (h1 : PS X st (tS X.K X.w a)) : PSs X [st] (tS X.K X.w a) := pss_one h1
def sPass : SF := fun env hp => .nx env hp
theorem d_pass : PS X (.Pass pos) (tS X.K X.w sPass) := by
  refine psW ps_pass fun D σ H h => ?_
  obtain ⟨ρ, env, hp, a, q⟩ := h
  exact q ρ H σ (Le.refl _ _ _) a
def sBrk : SF := fun env hp => .bk env hp
theorem d_brk : PS X (.Break pos) (tS X.K X.w sBrk) := by
  refine psW ps_break fun D σ H h => ?_
  obtain ⟨ρ, env, hp, a, q⟩ := h
  exact q ρ H σ (Le.refl _ _ _) a
def sCt : SF := fun env hp => .ct env hp
theorem d_ct : PS X (.Continue pos) (tS X.K X.w sCt) := by
  refine psW ps_continue fun D σ H h => ?_
  obtain ⟨ρ, env, hp, a, q⟩ := h
  exact q ρ H σ (Le.refl _ _ _) a
theorem so_ok {α : Type} {x : Out α} {f : α → Ht → SO} {P : SO → Prop} (hn : ¬ P .fail) (he : ∀ d hp, ¬ P (.exc d hp)) (h : P (x.so f)) : ∃ a hp, x = .ok a hp ∧ P (f a hp) := by
  cases x with
  | ok a hp => exact ⟨a, hp, rfl, h⟩
  | exc d hp => exact absurd h (he d hp)
  | fail => exact absurd h hn
/-- what is asked of a statement's end, in short -/
def SPo (K : PySem.W.Frag) (w : World) (ρ : List Addr) (H : Hp) (D : Ends) : SO → Prop
  | .nx env' hp' => ∀ ρ' H' σ', Le K ρ H ρ' H' → At K w ρ' H' env' hp' σ' → D.nx σ' H'
  | .bk env' hp' => ∀ ρ' H' σ', Le K ρ H ρ' H' → At K w ρ' H' env' hp' σ' → D.bk σ' H'
  | .ct env' hp' => ∀ ρ' H' σ', Le K ρ H ρ' H' → At K w ρ' H' env' hp' σ' → D.ct σ' H'
  | .rt d hp' => ∀ ρ' H' v, Le K ρ H ρ' H' → HR K w ρ' H' hp' → R K ρ' H' d v → D.rt v H'
  | _ => False
theorem tS_iff {g : SF} {D : Ends} {σ : L2.St} {H : Hp} : tS K w g D σ H ↔ ∃ ρ env hp, At K w ρ H env hp σ ∧ SPo K w ρ H D (g env hp) := by
  unfold tS
  constructor
  · rintro ⟨ρ, env, hp, a, q⟩
    refine ⟨ρ, env, hp, a, ?_⟩
    cases e : g env hp <;> (rw [e] at q; exact q)
  · rintro ⟨ρ, env, hp, a, q⟩
    refine ⟨ρ, env, hp, a, ?_⟩
    cases e : g env hp <;> (rw [e] at q; exact q)
theorem SPo.up {D : Ends} {x : SO} (h : SPo K w ρ H D x) (l : Le K ρ H ρ' H') : SPo K w ρ' H' D x := by
  cases x with
  | nx _ _ => exact fun ρ2 H2 σ2 l2 a2 => h ρ2 H2 σ2 (l.trans l2) a2
  | bk _ _ => exact fun ρ2 H2 σ2 l2 a2 => h ρ2 H2 σ2 (l.trans l2) a2
  | ct _ _ => exact fun ρ2 H2 σ2 l2 a2 => h ρ2 H2 σ2 (l.trans l2) a2
  | rt _ _ => exact fun ρ2 H2 σ2 l2 a2 => h ρ2 H2 σ2 (l.trans l2) a2
  | exc _ _ => exact h
  | fail => exact h
theorem SPo.so {α : Type} {x : Out α} {f : α → Ht → SO} {D : Ends} (h : SPo K w ρ H D (x.so f)) : ∃ a hp, x = .ok a hp ∧ SPo K w ρ H D (f a hp) := so_ok (P := SPo K w ρ H D) (fun h => h) (fun _ _ h => h) h
def sExpr (f : EF) : SF := fun env hp => (f env hp).so fun _ hp1 => .nx env hp1
theorem d_expr {e : Expr} {f : EF} (he : PE X e (tE X.K X.w f)) (hs : swapsWith e none pos.line X.env = pure false := by rfl) : PS X (.Expr e pos) (tS X.K X.w (sExpr f)) := by
  refine psW (ps_expr he hs) fun D σ H h => ?_
  obtain ⟨ρ, env, hp, a, q⟩ := tS_iff.mp h
  obtain ⟨x, hp1, e1, q⟩ := q.so
  exact ⟨ρ, env, hp, x, hp1, a, e1, fun ρ1 H1 v l1 h1 _ => q ρ1 H1 σ l1 (a.up l1 h1)⟩
def sRet (f : EF) : SF := fun env hp => (f env hp).so fun d hp1 => .rt d hp1
theorem d_ret {e : Expr} {f : EF} (he : PE X e (tE X.K X.w f)) : PS X (.Return (some e) pos) (tS X.K X.w (sRet f)) := by
  refine psW (ps_ret he) fun D σ H h => ?_
  obtain ⟨ρ, env, hp, a, q⟩ := tS_iff.mp h
  obtain ⟨x, hp1, e1, q⟩ := q.so
  exact ⟨ρ, env, hp, x, hp1, a, e1, fun ρ1 H1 v l1 h1 r1 => q ρ1 H1 v l1 h1 r1⟩
def sRetN : SF := fun _ hp => .rt .non hp
theorem d_retN : PS X (.Return none pos) (tS X.K X.w sRetN) := by
  refine psW ps_retN fun D σ H h => ?_
  obtain ⟨ρ, env, hp, a, q⟩ := tS_iff.mp h
  exact q ρ H .non (Le.refl _ _ _) a.hr .non
def sIf (c : BF) (a b : SF) : SF := fun env hp => (c env hp).so fun k hp1 => if k = true then a env hp1 else b env hp1
theorem d_ifS {c : Expr} {a b : List Stmt} {fc : BF} {fa fb : SF} (hc : PT X c (tT X.K X.w fc)) (ha : PSs X a (tS X.K X.w fa)) (hb : PSs X b (tS X.K X.w fb)) : PS X (.If c a b pos) (tS X.K X.w (sIf fc fa fb)) := by
  refine psW (ps_if hc ha hb) fun D σ H h => ?_
  obtain ⟨ρ, env, hp, at', q⟩ := tS_iff.mp h
  obtain ⟨k, hp1, e1, q⟩ := q.so
  refine ⟨ρ, env, hp, k, hp1, at', e1, fun ρ1 H1 l1 h1 => ?_⟩
  cases k with
  | true => exact tS_iff.mpr ⟨ρ1, env, hp1, at'.up l1 h1, q.up l1⟩
  | false => exact tS_iff.mpr ⟨ρ1, env, hp1, at'.up l1 h1, q.up l1⟩
def sAsg (f : EF) (g : GF) : SF := fun env hp => (f env hp).so fun d hp1 => (g d env hp1).so fun env1 hp2 => .nx env1 hp2
theorem asgI {f : EF} {g : GF} {D : Ends} {σ : L2.St} {H : Hp} {is : List Nat} (h : tS X.K X.w (sAsg f g) D σ H) : tAsg (tE X.K X.w f) (tG X.K X.w is g) D σ H := by
  obtain ⟨ρ, env, hp, at', q⟩ := tS_iff.mp h
  obtain ⟨d, hp1, e1, q⟩ := q.so
  obtain ⟨env1, hp2, e2, q⟩ := q.so
  exact ⟨ρ, env, hp, d, hp1, at', e1, fun ρ1 H1 v l1 h1 r1 => ⟨ρ1, env, hp1, d, env1, hp2, at'.up l1 h1, r1, e2, fun ρ2 H2 σ2 l2 a2 _ => q ρ2 H2 σ2 (l1.trans l2) a2⟩⟩
theorem d_asg {is : List Nat} {tg e : Expr} {f : EF} {g : GF} (he : PE X e (tE X.K X.w f)) (hg : PG X tg (tG X.K X.w is g)) (hs : swapsWithSole [tg] e pos.line X.env = pure false := by rfl) (hw : swappedStores [tg] e X.env = pure none := by rfl)
    (h1 : (assignEach [tg] X.env).map (·.2) = [assign tg X.env] := by rfl) : PS X (.Assign [tg] e pos) (tS X.K X.w (sAsg f g)) := psW (ps_asg he hg hs hw h1) fun _ _ _ h => asgI h
theorem d_set (i : Nat) {x : Str} {e : Expr} {f : EF} {pos' : Pos} (hN : X.N.Nodup) (he : PE X e (tE X.K X.w f)) (hi : X.N[i]? = some x := by rfl) (hx : Loc X.env.scope x := by first | exact Or.inl rfl | exact Or.inr rfl) (hs : swapsWith e (some (.Name x pos')) pos.line X.env = pure false := by rfl) (hf : X.fn x = true ∨ X.env.scope.names.lookup x = some .local := by first | exact .inl rfl | exact .inr rfl | assumption) :
    PS X (.Assign [.Name x pos'] e pos) (tS X.K X.w (sAsg f (gN i))) := by
  refine psW (ps_set hN hi hx he hs hf) fun D σ H h => ?_
  obtain ⟨ρ, env, hp, d, hp', a, e, q⟩ := asgI (is := [i]) h
  refine ⟨ρ, env, hp, d, hp', a, e, fun ρ1 H1 v l1 h1 r1 => ?_⟩
  obtain ⟨ρ2, env2, hp2, d2, env3, hp3, a2, r2, e2, q2⟩ := q ρ1 H1 v l1 h1 r1
  cases e2
  exact q2 ρ2 H1 _ (Le.refl _ _ _) ⟨a2.hr, a2.er.set r2⟩ (Same'.set i _ σ)
/-- a, b = x, y with plain local names: no tuple -/
def sPar (is : List Nat) (f : AF) : SF := fun env hp => (f env hp).so fun ds hp1 => if ds.length = is.length then .nx ((is.zip ds).foldl (fun e p => e.set p.1 (some p.2)) env) hp1 else .fail
theorem d_par2 (i j : Nat) {x y : Str} {a b : Expr} {f : AF} {px py pt : Pos} {kt k2 pt2} (hc : X.calm = true) (hN : X.N.Nodup) (ha : PA X [a, b] (tA X.K X.w f)) (hi : X.N[i]? = some x := by rfl) (hj : X.N[j]? = some y := by rfl) (hij : i ≠ j := by decide)
    (hx : X.env.scope.names.lookup x = some .local := by rfl) (hy : X.env.scope.names.lookup y = some .local := by rfl)
    (hw : swappedStores [.Tuple [.Name x px, .Name y py] kt pt] (.Tuple [a, b] k2 pt2) X.env = pure (some [x, y]) := by rfl)
    (hs : swapsWithSole [.Tuple [.Name x px, .Name y py] kt pt] (.Tuple [a, b] k2 pt2) pos.line X.env = pure false := by rfl) :
    PS X (.Assign [.Tuple [.Name x px, .Name y py] kt pt] (.Tuple [a, b] k2 pt2) pos) (tS X.K X.w (sPar [i, j] f)) := by
  refine psW (ps_par hc hN hi hj hij hx hy ha hw hs) fun D σ H h => ?_
  obtain ⟨ρ, env, hp, at', q⟩ := tS_iff.mp h
  obtain ⟨ds, hp1, e1, q⟩ := q.so
  split at q
  · rename_i hl
    refine ⟨ρ, env, hp, ds, hp1, at', e1, fun ρ1 H1 vs l1 h1 r1 => ?_⟩
    match ds, vs, hl, r1, q with
    | [d1, d2], [v1, v2], _, .cons r1 (.cons r2 .nil), q =>
      exact ⟨v1, v2, rfl, q ρ1 H1 _ l1 ⟨h1, ((at'.er.up l1).set r1).set r2⟩⟩
  · exact q.elim
end
end DL
set_option Elab.async false
set_option linter.all false
set_option maxRecDepth 100000
set_option maxHeartbeats 4000000
namespace DL
open PySem PySem.Spec PyProof.Rows L2

/-! ### what is walked -/
inductive Src where
  | tup (ds : List D)
  | lst (n : Nat)
  | rng (lo : Int) (n : Nat)
  | rngC (lo c : Int) (n : Nat)
  | str (x : Str)
  | zip (a b : Src)
  | enum (a : Src)
def itemS : Src → Nat → Ht → Option (Option D)
  | .tup ds, i, _ => some ds[i]?
  | .lst n, i, hp => (lsOf hp n).map fun xs => xs[i]?
  | .rng lo n, i, _ => some (if i < n then some (.int (lo + i)) else none)
  | .rngC lo c n, i, _ => some (if i < n then some (.int (lo + i * c)) else none)
  | .str x, i, _ => some ((x.cps[i]?).map fun c => .str ⟨#[c]⟩)
  | .zip a b, i, hp => match itemS a i hp, itemS b i hp with
    | some (some x), some (some y) => some (some (.tup [x, y]))
    | some _, some _ => some none
    | _, _ => none
  | .enum a, i, hp => match itemS a i hp with
    | some (some x) => some (some (.tup [.int i, x]))
    | some none => some none
    | none => none
def lenS : Src → Ht → Nat
  | .tup ds, _ => ds.length
  | .lst n, hp => ((lsOf hp n).getD []).length
  | .rng _ n, _ => n
  | .rngC _ _ n, _ => n
  | .str x, _ => x.cps.size
  | .zip a b, hp => min (lenS a hp) (lenS b hp)
  | .enum a, hp => lenS a hp
def SndIt (K : PySem.W.Frag) (w : World) (J : It) (ρ0 : List Addr) (H0 : Hp) (src : Src) : Prop := ∀ i ρ H hp, Le K ρ0 H0 ρ H → HR K w ρ H hp →
  (∀ d, itemS src i hp = some (some d) → J.go i H ∧ ∀ x H', J.yld i H x H' → ∃ ρ', Le K ρ H ρ' H' ∧ HR K w ρ' H' hp ∧ R K ρ' H' d x) ∧ (itemS src i hp = some none → J.stop i H)
abbrev IF := En → Ht → Out Src
def tI (K : PySem.W.Frag) (w : World) (f : IF) : TI := fun σ H Rr => ∃ ρ env hp src hp', At K w ρ H env hp σ ∧ f env hp = .ok src hp' ∧ ∀ ρ' H' J, Le K ρ H ρ' H' → HR K w ρ' H' hp' → SndIt K w J ρ' H' src → Rr J H'
def iSrc (f : EF) : IF := fun env hp => (f env hp).bind fun d hp1 => match d with
  | .tup ds => .ok (.tup ds) hp1
  | .ref n => if (lsOf hp1 n).isSome then .ok (.lst n) hp1 else .fail
  | _ => .fail
def iSeq (K : PySem.W.Frag) (tl : TE) : TI := fun σ H R => tl σ H fun x H1 => ∃ a, x = .ref a ∧ (((∃ xs, SqL K H1 a xs) ∧ R (Itl K a) H1) ∨ ((∃ xs, SqT K H1 a xs) ∧ R (Itt K a) H1))
section
variable {X : Cx} {tg : Expr} {K : PySem.W.Frag} {w : World} {ρ ρ' ρ0 : List Addr} {H H' H0 : Hp} {hp hp' : Ht} {pos : Pos}
theorem piW {e : Expr} {t t' : TI} (h : PI X tg e t) (i : ∀ σ H Q, t' σ H Q → t σ H Q) : PI X tg e t' := ⟨fun pins s σ H R I q => h.run pins s σ H R I (i σ H R q)⟩
theorem pi_seq {l : Expr} {tl : TE} (hl : PE X l tl) : PI X tg l (iSeq X.K tl) := by
  refine ⟨fun pins s σ H R I h => ?_⟩
  refine thn (hl.run pins s σ H _ I h) fun v s1 ⟨x, H1, I1, r1, q1⟩ => ?_
  obtain ⟨a, e, q⟩ := q1
  subst e
  cases r1
  rcases q with ⟨⟨xs, hq⟩, q⟩ | ⟨⟨xs, hq⟩, q⟩
  · obtain ⟨its, rv, p, hz⟩ := I1.list hq
    refine wpAny_pyIter_list p.isList ?_
    refine ⟨s1.heap.objs.size, [s1.heap.objs.size], _, _, H1, rfl, I1.kept (t' := s1.toks) fun b o e => Heap.get?_push_of_some _ e, turn_list a _, ⟨_, Heap.get?_push_size _ rfl, rfl, rfl⟩, fun b hb => ?_, q⟩
    have e : b = s1.heap.objs.size := by simpa using hb
    subst e
    exact I1.fpOk (Nat.le_refl _) (I1.hok.fresh (Nat.le_refl _))
  · obtain ⟨its, rv, p, hz⟩ := I1.tuple hq
    refine wpAny_pyIter_tuple (show s1.heap.IsTuple a its.toArray from p) ?_
    refine ⟨s1.heap.objs.size, [s1.heap.objs.size], _, _, H1, rfl, I1.kept (t' := s1.toks) fun b o e => Heap.get?_push_of_some _ e, turn_tuple a _, ⟨_, Heap.get?_push_size _ rfl, rfl, rfl⟩, fun b hb => ?_, q⟩
    have e : b = s1.heap.objs.size := by simpa using hb
    subst e
    exact I1.fpOk (Nat.le_refl _) (I1.hok.fresh (Nat.le_refl _))
theorem snd_tup {ds : List D} {a : Addr} {vs : List V} (s : SqT K H0 a vs) (r : Rs K ρ0 H0 ds vs) : SndIt K w (Itt K a) ρ0 H0 (.tup ds) := by
  intro i ρ H hp l h
  have s' := l.tup _ _ s
  have r' := r.up l
  refine ⟨fun d e => ?_, fun e => ⟨vs, s', ?_⟩⟩
  · simp only [itemS, Option.some.injEq] at e
    obtain ⟨v, ev, rv⟩ := r'.get e
    refine ⟨⟨vs, v, s', ev⟩, fun x H' y => ?_⟩
    obtain ⟨rfl, y⟩ := y
    have : v = x := Option.some.inj (ev.symm.trans (y vs s'))
    subst this
    exact ⟨ρ, Le.refl _ _ _, h, rv⟩
  · simp only [itemS, Option.some.injEq] at e
    rw [← r'.length]
    exact List.getElem?_eq_none_iff.mp e
theorem snd_lst {n : Nat} {a : Addr} (e1 : ρ0[n]? = some a) : SndIt K w (Itl K a) ρ0 H0 (.lst n) := by
  intro i ρ H hp l h
  have e2 := pre_get l.pre e1
  refine ⟨fun d e => ?_, fun e => ?_⟩
  · simp only [itemS, Option.map_eq_some_iff] at e
    obtain ⟨xs, ex, e⟩ := e
    obtain ⟨vs, s, r⟩ := lsOf_sq h e2 ex
    obtain ⟨v, ev, rv⟩ := r.get e
    refine ⟨⟨vs, v, s, ev⟩, fun x H' y => ?_⟩
    obtain ⟨rfl, y⟩ := y
    have : v = x := Option.some.inj (ev.symm.trans (y vs s))
    subst this
    exact ⟨ρ, Le.refl _ _ _, h, rv⟩
  · simp only [itemS, Option.map_eq_some_iff] at e
    obtain ⟨xs, ex, e⟩ := e
    obtain ⟨vs, s, r⟩ := lsOf_sq h e2 ex
    refine ⟨vs, s, ?_⟩
    rw [← r.length]
    exact List.getElem?_eq_none_iff.mp e
theorem snd_rng {lo : Int} {n : Nat} : SndIt K w (Itr lo n) ρ0 H0 (.rng lo n) := by
  intro i ρ H hp l h
  refine ⟨fun d e => ?_, fun e => ?_⟩
  · simp only [itemS, Option.some.injEq] at e
    split at e
    · rename_i hi
      cases e
      exact ⟨hi, fun x H' y => by obtain ⟨rfl, rfl⟩ := y; exact ⟨ρ, Le.refl _ _ _, h, .int _⟩⟩
    · cases e
  · simp only [itemS, Option.some.injEq] at e
    split at e
    · cases e
    · rename_i hi
      exact Nat.not_lt.mp hi
theorem snd_str {x : Str} : SndIt K w (Its x) ρ0 H0 (.str x) := by
  intro i ρ H hp l h
  refine ⟨fun d e => ?_, fun e => ?_⟩
  · simp only [itemS, Option.some.injEq, Option.map_eq_some_iff] at e
    obtain ⟨c, ec, rfl⟩ := e
    refine ⟨(Array.getElem?_eq_some_iff.mp ec).1, fun v H' y => ?_⟩
    obtain ⟨rfl, c', ec', rfl⟩ := y
    rw [ec] at ec'
    cases ec'
    exact ⟨ρ, Le.refl _ _ _, h, .str _⟩
  · simp only [itemS, Option.some.injEq, Option.map_eq_none_iff] at e
    exact Array.getElem?_eq_none_iff.mp e
theorem di_seq {l : Expr} {f : EF} (hl : PE X l (tE X.K X.w f)) : PI X tg l (tI X.K X.w (iSrc f)) := by
  refine piW (pi_seq hl) fun σ H Rr h => ?_
  obtain ⟨ρ, env, hp, src, hp', a, e, q⟩ := h
  obtain ⟨d, hp1, e1, e2⟩ := Out.bind_ok e
  refine ⟨ρ, env, hp, d, hp1, a, e1, fun ρ1 H1 v l1 h1 r1 => ?_⟩
  cases d with
  | tup ds =>
    cases e2
    cases r1 with
    | @tup _ p vs s r => exact ⟨p, rfl, .inr ⟨⟨vs, s⟩, q ρ1 H1 _ l1 h1 (snd_tup s r)⟩⟩
  | ref n =>
    simp only at e2
    split at e2
    · rename_i hs
      cases e2
      obtain ⟨xs, ex⟩ := Option.isSome_iff_exists.mp hs
      cases r1 with
      | @ref _ p f1 =>
        obtain ⟨vs, s, _⟩ := lsOf_sq h1 f1 ex
        exact ⟨p, rfl, .inl ⟨⟨vs, s⟩, q ρ1 H1 _ l1 h1 (snd_lst f1)⟩⟩
    · cases e2
  | _ => cases e2
def iStrS (f : EF) : IF := fun env hp => (f env hp).bind fun d hp1 => match d with
  | .str x => .ok (.str x) hp1
  | _ => .fail
theorem di_str {l : Expr} {f : EF} (hl : PE X l (tE X.K X.w f)) : PI X tg l (tI X.K X.w (iStrS f)) := by
  refine piW (pi_str hl) fun σ H Rr h => ?_
  obtain ⟨ρ, env, hp, src, hp', a, e, q⟩ := h
  obtain ⟨d, hp1, e1, e2⟩ := Out.bind_ok e
  refine ⟨ρ, env, hp, d, hp1, a, e1, fun ρ1 H1 v l1 h1 r1 => ?_⟩
  cases d with
  | str x =>
    cases e2
    cases r1
    exact ⟨_, rfl, q ρ1 H1 _ l1 h1 snd_str⟩
  | _ => cases e2
def iRange1 (f : AF) : IF := fun env hp => (f env hp).bind fun ds hp1 => match ds with
  | [.int j] => if Sm j then .ok (.rng 0 j.toNat) hp1 else .fail
  | _ => .fail
theorem di_range1 {a : Expr} {f : AF} {p : Pos} (hm : X.mg "range" = none) (ha : PA X [a] (tA X.K X.w f)) (hg : Gl X "range" := by rfl) (hs : starEach [a] X.env = [(false, eval a X.env)] := by rfl) : PI X tg (.Call (.Name "range" p) [a] [] pos) (tI X.K X.w (iRange1 f)) := by
  refine piW (pi_range1 hg hm ha hs) fun σ H Rr h => ?_
  obtain ⟨ρ, env, hp, src, hp', a, e, q⟩ := h
  obtain ⟨d, hp1, e1, e2⟩ := Out.bind_ok e
  refine ⟨ρ, env, hp, d, hp1, a, e1, fun ρ1 H1 v l1 h1 r1 => ?_⟩
  split at e2
  · split at e2
    · rename_i j hz
      cases e2
      cases r1 with
      | cons r1 r2 =>
        cases r2
        cases r1
        exact ⟨_, rfl, hz.b62.1, hz.b62.2, q ρ1 H1 _ l1 h1 snd_rng⟩
    · cases e2
  · cases e2
def iRange2 (f : AF) : IF := fun env hp => (f env hp).bind fun ds hp1 => match ds with
  | [.int i, .int j] => if Sm i ∧ Sm j then .ok (.rng i (j - i).toNat) hp1 else .fail
  | _ => .fail
theorem di_range2 {a b : Expr} {f : AF} {p : Pos} (hm : X.mg "range" = none) (ha : PA X [a, b] (tA X.K X.w f)) (hg : Gl X "range" := by rfl) (hs : starEach [a, b] X.env = [(false, eval a X.env), (false, eval b X.env)] := by rfl) (hs2 : starEach [b] X.env = [(false, eval b X.env)] := by rfl) : PI X tg (.Call (.Name "range" p) [a, b] [] pos) (tI X.K X.w (iRange2 f)) := by
  refine piW (pi_range2 hg hm ha hs hs2) fun σ H Rr h => ?_
  obtain ⟨ρ, env, hp, src, hp', a, e, q⟩ := h
  obtain ⟨d, hp1, e1, e2⟩ := Out.bind_ok e
  refine ⟨ρ, env, hp, d, hp1, a, e1, fun ρ1 H1 v l1 h1 r1 => ?_⟩
  split at e2
  · split at e2
    · rename_i hz
      cases e2
      cases r1 with
      | cons r1 r2 =>
        cases r2 with
        | cons r2 r3 =>
          cases r3
          cases r1
          cases r2
          exact ⟨_, _, rfl, ⟨hz.1.b62.1, hz.1.b62.2, hz.2.b62.1, hz.2.b62.2⟩, q ρ1 H1 _ l1 h1 snd_rng⟩
    · cases e2
  · cases e2
/-- zip of two lists, of two tuples -/
def iZipF (f : AF) : IF := fun env hp => (f env hp).bind fun ds hp1 => match ds with
  | [.tup a, .tup b] => .ok (.zip (.tup a) (.tup b)) hp1
  | [.ref n, .ref m] => if (lsOf hp1 n).isSome ∧ (lsOf hp1 m).isSome then .ok (.zip (.lst n) (.lst m)) hp1 else .fail
  | _ => .fail
theorem snd_zipT {ds es : List D} {a b : Addr} {vs ws : List V} (s : SqT K H0 a vs) (r : Rs K ρ0 H0 ds vs) (s2 : SqT K H0 b ws) (r2 : Rs K ρ0 H0 es ws) : SndIt K w (RZ.ItzT K a b) ρ0 H0 (.zip (.tup ds) (.tup es)) := by
  intro i ρ H hp l h
  have s' := l.tup _ _ s
  have r' := r.up l
  have s2' := l.tup _ _ s2
  have r2' := r2.up l
  simp only [itemS]
  refine ⟨fun d e => ?_, fun e => ⟨vs, ws, s', s2', ?_⟩⟩
  · split at e
    · rename_i x y e1 e2
      cases e
      obtain ⟨v, ev, rv⟩ := r'.get (Option.some.inj e1)
      obtain ⟨v2, ev2, rv2⟩ := r2'.get (Option.some.inj e2)
      refine ⟨⟨vs, ws, v, v2, s', s2', ev, ev2⟩, fun x H' y => ?_⟩
      obtain ⟨T, x1, y1, rfl, hn, rfl, g1, g2⟩ := y
      have q1 : v = x1 := Option.some.inj (ev.symm.trans (g1 vs s'))
      have q2 : v2 = y1 := Option.some.inj (ev2.symm.trans (g2 ws s2'))
      subst q1 q2
      have l2 : Le K ρ H ρ (upd H T (.tup [v, v2])) := Le.new0 _ hn
      exact ⟨ρ, l2, h.tup hn, .tup (SqT.of upd_same) (.cons (rv.up l2) (.cons (rv2.up l2) .nil))⟩
    · cases e
    · cases e
  · rw [← r'.length, ← r2'.length]
    split at e
    · cases e
    · rename_i o1 o2 hne e1 e2
      have e1' := Option.some.inj e1
      have e2' := Option.some.inj e2
      cases ho1 : ds[i]? with
      | none => exact .inl (List.getElem?_eq_none_iff.mp ho1)
      | some x =>
        cases ho2 : es[i]? with
        | none => exact .inr (List.getElem?_eq_none_iff.mp ho2)
        | some y => exact (hne x y (by rw [← e1', ho1]) (by rw [← e2', ho2])).elim
    · cases e
theorem snd_zipL {n m : Nat} {a b : Addr} (e1 : ρ0[n]? = some a) (e2 : ρ0[m]? = some b) : SndIt K w (Itz K a b) ρ0 H0 (.zip (.lst n) (.lst m)) := by
  intro i ρ H hp l h
  have e1' := pre_get l.pre e1
  have e2' := pre_get l.pre e2
  simp only [itemS]
  refine ⟨fun d e => ?_, fun e => ?_⟩
  · split at e
    · rename_i x y f1 f2
      cases e
      simp only [Option.map_eq_some_iff] at f1 f2
      obtain ⟨xs, ex, f1⟩ := f1
      obtain ⟨ys, ey, f2⟩ := f2
      obtain ⟨vs, s', r'⟩ := lsOf_sq h e1' ex
      obtain ⟨ws, s2', r2'⟩ := lsOf_sq h e2' ey
      obtain ⟨v, ev, rv⟩ := r'.get f1
      obtain ⟨v2, ev2, rv2⟩ := r2'.get f2
      refine ⟨⟨vs, ws, v, v2, s', s2', ev, ev2⟩, fun x H' y => ?_⟩
      obtain ⟨T, x1, y1, rfl, hn, rfl, g1, g2⟩ := y
      have q1 : v = x1 := Option.some.inj (ev.symm.trans (g1 vs s'))
      have q2 : v2 = y1 := Option.some.inj (ev2.symm.trans (g2 ws s2'))
      subst q1 q2
      have l2 : Le K ρ H ρ (upd H T (.tup [v, v2])) := Le.new0 _ hn
      exact ⟨ρ, l2, h.tup hn, .tup (SqT.of upd_same) (.cons (rv.up l2) (.cons (rv2.up l2) .nil))⟩
    · cases e
    · cases e
  · split at e
    · cases e
    · rename_i o1 o2 hne f1 f2
      simp only [Option.map_eq_some_iff] at f1 f2
      obtain ⟨xs, ex, f1⟩ := f1
      obtain ⟨ys, ey, f2⟩ := f2
      obtain ⟨vs, s', r'⟩ := lsOf_sq h e1' ex
      obtain ⟨ws, s2', r2'⟩ := lsOf_sq h e2' ey
      refine ⟨vs, ws, s', s2', ?_⟩
      rw [← r'.length, ← r2'.length]
      cases ho1 : xs[i]? with
      | none => exact .inl (List.getElem?_eq_none_iff.mp ho1)
      | some x =>
        cases ho2 : ys[i]? with
        | none => exact .inr (List.getElem?_eq_none_iff.mp ho2)
        | some y => exact (hne x y (by rw [← f1, ho1]) (by rw [← f2, ho2])).elim
    · cases e
theorem di_zip {e e2 : Expr} {f : AF} {p tpos : Pos} {elts : List Expr} {kk : Nat} (hm : X.mg "zip" = none) (ha : PA X [e, e2] (tA X.K X.w f)) (hg : Gl X "zip" := by rfl)
    (hs : starEach [e, e2] X.env = (false, eval e X.env) :: starEach [e2] X.env := by rfl) (hpl : (backTo pos (starEach [e2] X.env)).any (·.1) = false := by rfl) :
    PI X (.Tuple elts kk tpos) (.Call (.Name "zip" p) [e, e2] [] pos) (tI X.K X.w (iZipF f)) := by
  refine piW (RZ.pi_zipA hg hm ha hs hpl) fun σ H Rr h => ?_
  obtain ⟨ρ, env, hp, src, hp', a, e, q⟩ := h
  obtain ⟨d, hp1, e1, e2⟩ := Out.bind_ok e
  refine ⟨ρ, env, hp, d, hp1, a, e1, fun ρ1 H1 v l1 h1 r1 => ?_⟩
  split at e2
  · cases e2
    cases r1 with
    | cons r1 r2 =>
      cases r2 with
      | cons r2 r3 =>
        cases r3
        cases r1 with
        | @tup _ p1 vs s r =>
          cases r2 with
          | @tup _ p2 ws s2 r2 =>
            exact ⟨p1, p2, vs, ws, rfl, .inr ⟨s, s2, q ρ1 H1 _ l1 h1 (snd_zipT s r s2 r2)⟩⟩
  · split at e2
    · rename_i n m hz
      cases e2
      obtain ⟨xs, ex⟩ := Option.isSome_iff_exists.mp hz.1
      obtain ⟨ys, ey⟩ := Option.isSome_iff_exists.mp hz.2
      cases r1 with
      | cons r1 r2 =>
        cases r2 with
        | cons r2 r3 =>
          cases r3
          cases r1 with
          | @ref _ p1 f1 =>
            cases r2 with
            | @ref _ p2 f2 =>
              obtain ⟨vs, s, _⟩ := lsOf_sq h1 f1 ex
              obtain ⟨ws, s2, _⟩ := lsOf_sq h1 f2 ey
              exact ⟨p1, p2, vs, ws, rfl, .inl ⟨s, s2, q ρ1 H1 _ l1 h1 (snd_zipL f1 f2)⟩⟩
    · cases e2
  · cases e2

/-! ### enumerate, of a list or a tuple -/
def IteT (K : PySem.W.Frag) (a : Addr) : It :=
  ⟨fun i H => ∃ (xs : List V) (x : V), SqT K H a xs ∧ xs[i]? = some x, fun i H v H' => ∃ T x, v = .ref T ∧ H T = none ∧ H' = upd H T (.tup [.int (i : Nat), x]) ∧ ∀ xs, SqT K H a xs → xs[i]? = some x, fun i H => ∃ xs : List V, SqT K H a xs ∧ xs.length ≤ i⟩
theorem turn_enumT {P : Program} {w : World} {K : PySem.W.Frag} {elts : List Expr} {kk : Nat} {tpos : Pos} (a e it : Addr) :
    Turn P w K (.Tuple elts kk tpos) (IteT K a) [e, it] e (fun i h => (∃ old, IsEnum h e it ((i : Nat) : Int) old) ∧ h.IsTupleIter it a i ∧ e ≠ it) where
  mem := by simp
  obj := fun i h st b hb => by
    obtain ⟨⟨old, he⟩, ⟨o, ho, hc, hd⟩, _⟩ := st
    have e' : b = e ∨ b = it := by simpa using hb
    rcases e' with z | z
    · rw [z]; exact ⟨_, he, fun v q => nomatch q⟩
    · rw [z]; exact ⟨o, ho, fun v q => by rw [hd] at q; cases q⟩
  keep := fun i h h' st k => let ⟨⟨old, he⟩, hi, hne⟩ := st; ⟨⟨old, k e (by simp) _ he⟩, hi.at fun o q => k it (by simp) o q, hne⟩
  item := by
    intro X hP hw hK hc i pins s σ H E I hf st hg
    subst hP hw hK
    obtain ⟨⟨old, he⟩, hit, hne⟩ := st
    obtain ⟨xs, x, hq, hx⟩ := hg
    obtain ⟨its, rv, p, hz⟩ := I.tuple hq
    obtain ⟨u, hu, ru⟩ := rv.get hx
    have hel : e < s.heap.objs.size := Heap.lt_size he
    have hil : it < s.heap.objs.size := by obtain ⟨_, q, _⟩ := hit; exact Heap.lt_size q
    have hti : s.heap.IsTuple a its.toArray := p
    have hae : a ≠ e := by
      intro z
      obtain ⟨o, h1, h2, _⟩ := hti
      rw [z, show s.heap.get? e = some _ from he] at h1
      cases h1
      simp at h2
    have hai : a ≠ it := by
      intro z
      obtain ⟨o, h1, h2, _⟩ := hti
      obtain ⟨o2, h3, h4, _⟩ := hit
      rw [z, h3] at h1
      cases h1
      rw [h4] at h2
      exact absurd h2 (by decide)
    have hlt : i < its.toArray.size := by
      have := (List.getElem?_eq_some_iff.mp hu).1
      simpa using this
    refine wpAny_pyNext_enum_itemD (Draws.tuple (A := X.A.in1) (show X.A.in1.handled = none from I.ok.hd hc) it a hai its.toArray) he ⟨hit, hti⟩ hlt hne (by simp; exact ⟨hne, Ne.symm hae⟩) fun x' h' tk hx' ho hst' hT hsz hk => ?_
    have ex' : x' = u := by
      have h2 : its.toArray[i]? = some u := by simpa using hu
      exact Option.some.inj ((show its.toArray[i]? = some x' from hx').symm.trans h2)
    subst ex'
    refine ⟨_, rfl, wpAny_letOwnedTupleGo_enum (s := { s with heap := h', toks := tk + 1 }) ho fun h'' he' sb => ?_⟩
    have hT2 : h''.get? s.heap.objs.size = some { cls := .type "tuple", data := .seq #[.int i tk, x'] } := (sb.2 _ (Nat.ne_of_gt hel)).trans hT
    have new : ObjOk X.prog X.w (upd H s.heap.objs.size (.tup [.int (i : Nat), x])) h'' s.heap.objs.size (.tup [.int (i : Nat), x]) :=
      ⟨by show 2 ≤ sizeLine; decide, [.int i tk, x'], .cons ⟨_, rfl⟩ (.cons ru .nil), ⟨_, hT2, rfl, _, rfl⟩⟩
    have I1 : Inv X pins σ (upd H s.heap.objs.size (.tup [.int (i : Nat), x])) { s with heap := h'', toks := tk + 1 } :=
      I.turnedNew (ch := [e, it]) (fun b ob hb q => (sb.2 b (fun z => hb (by simp [z]))).trans (hk b ob (fun z => hb (by simp [z])) (fun z => hb (by simp [z])) q)) hf (Nat.le_refl _) new
    refine ⟨.ref s.heap.objs.size, _, I1, rfl, ⟨_, x, rfl, I.hok.fresh (Nat.le_refl _), rfl, fun ys hy => by rw [I.tuple_inj hy hq]; exact hx⟩, ⟨⟨x', ?_⟩, hst'.1.at fun o q => (sb.2 it (Ne.symm hne)).trans q, hne⟩, fun b hb => ?_⟩
    · have e1 : ((i + 1 : Nat) : Int) = (i : Int) + 1 := by omega
      rw [e1]; exact he'
    · have hb' : b < s.heap.objs.size := by
        have e' : b = e ∨ b = it := by simpa using hb
        rcases e' with z | z
        · rw [z]; exact hel
        · rw [z]; exact hil
      rw [upd_ne (Nat.ne_of_lt hb')]
      exact (hf b hb).1
  done := by
    intro X hP hw hK hc i pins s σ H E I hf st hg
    subst hP hw hK
    obtain ⟨⟨old, he⟩, hit, hne⟩ := st
    obtain ⟨xs, hq, hx⟩ := hg
    obtain ⟨its, rv, p, hz⟩ := I.tuple hq
    obtain ⟨f0, f1, f2, f3, f4, f5⟩ := hf it (by simp)
    have hl := rv.length
    have hti : s.heap.IsTuple a its.toArray := p
    have hT : s.TypeIs (.ref e) "enumerate" := ⟨_, he, rfl⟩
    unfold pyNext
    refine wpAny_bind (wpAny_attempt (wpAny_callSpecial?_slot (name := Str.ofString "__next__") hT F.slot_enumerate_next
      (wpAny_call_entry F.slot_enumerate_next hT F.entry_enumerate_next ?_ (F.args_enumerate_next_1 _))))
    show wpAny _ _ (field (.ref e) 2 >>= _) _ _ _
    refine wpAny_bind (wpAny_field he rfl (x := .ref it) rfl ?_)
    refine wpAny_bind (wpAny_nextOf_tuple_end (I.ok.hd hc) hit hti (by simp; omega) fun h' x he' hx' => ?_)
    obtain ⟨o, ho, hcl⟩ := hx'
    refine wpAny_bind (wpAny_isInstance (T := "StopIteration") (b := true) ⟨o, ho, hcl⟩ isSubtype_stop ?_)
    exact wpAny_pure ⟨rfl, I.turned (t' := s.toks) (fun b o hb q => he' b o hb q) f0 f1 f3 f4 f5⟩
  self := fun A i s Q E st h => let ⟨⟨_, he⟩, _⟩ := st; wpAny_pyIter_enum he h
end
set_option maxHeartbeats 1000000 in
theorem meets_enumerate_new1 {v : Value} {o : Obj} {H : Heap → Prop} (B : Begins v o H) :
    Meets (Builtin.«enumerate.__new__» ⟨[.type "enumerate", v], []⟩) (fun _ R s => H s.heap ∧
      R (.ok (.ret (.ref (s.heap.push o).objs.size))) { s with heap := (s.heap.push o).push { cls := .type "enumerate", data := .fields #[.none, .bool false, .ref s.heap.objs.size, rawInt 0, .none, .none] } }) :=
  .of_wp fun prog w A R s h => by
    obtain ⟨hp, g, d, tk, os⟩ := s; obtain ⟨h1, h⟩ := h
    have hsub := sub_enumerate
    have q1 : ∀ {A' : Around} {E : Value → Shared → Prop} {Q : Value → Shared → Prop}, Q (.ref hp.objs.size) ⟨hp.push o, g, d, tk, os⟩ → wpAny (model prog w) A' (pyIter v) Q E ⟨hp, g, d, tk, os⟩ :=
      fun q => B.iter prog w _ _ ⟨hp, g, d, tk, os⟩ _ h1 q
    wp_walk using q1
    refine wpAny_stack_any fun st => wpAny_pure ?_
    split
    · rename_i c _ _ _ _ _
      cases (c == Value.type "enumerate")
      · wp_walk using q1
        exact ⟨_, rfl, h⟩
      · wp_walk using q1
        exact ⟨_, rfl, h⟩
    · wp_walk using q1
      exact ⟨_, rfl, h⟩
theorem call_enumerate_B {prog : Program} {w : World} {A : Around} {E : Value → Shared → Prop} {s : Shared} {v : Value} {o : Obj} {H : Heap → Prop} {Q : Value → Shared → Prop} (B : Begins v o H) (h1 : H s.heap)
    (h : ∀ h', IsEnum h' (s.heap.objs.size + 1) s.heap.objs.size 0 .none → h'.get? s.heap.objs.size = some o → h'.objs.size = s.heap.objs.size + 2 →
      (∀ b o, s.heap.get? b = some o → h'.get? b = some o) → Q (.ref (s.heap.objs.size + 1)) { s with heap := h' }) :
    wpAny (model prog w) A (call (.type "enumerate") [v]) Q E s := by
  refine callType_new F.called_enumerate (by decide) (F.typeCall_enumerate_1 _) (F.newCall_enumerate_1 _) (fun obj => F.args_object_init_2 obj _) F.entry_enumerate_new
    (meets_enumerate_new1 B) ⟨h1, ?_⟩
  have hz : (s.heap.push o).objs.size = s.heap.objs.size + 1 := Heap.size_push ..
  show _ ∧ _
  rw [hz]
  have he : IsEnum ((s.heap.push o).push { cls := .type "enumerate", data := .fields #[.none, .bool false, .ref s.heap.objs.size, rawInt 0, .none, .none] }) (s.heap.objs.size + 1) s.heap.objs.size 0 .none := by
    have := Heap.get?_push_size (s.heap.push o) (o := { cls := .type "enumerate", data := .fields #[.none, .bool false, .ref s.heap.objs.size, rawInt 0, .none, .none] }) rfl
    rw [hz] at this; exact this
  exact ⟨⟨_, he, rfl⟩, h _ he (Heap.get?_push_of_some _ (Heap.get?_push_size _ B.free)) (by rw [Heap.size_push, hz]) fun b o x => Heap.get?_push_of_some _ (Heap.get?_push_of_some _ x)⟩
section
variable {X : Cx} {tg : Expr} {K : PySem.W.Frag} {w : World} {ρ ρ' ρ0 : List Addr} {H H' H0 : Hp} {hp hp' : Ht} {pos : Pos}
def iEnumA (K : PySem.W.Frag) (ta : TA) : TI := fun σ H R => ta σ H fun vs H1 => ∃ a xs, vs = [.ref a] ∧ ((SqL K H1 a xs ∧ R (Ite K a) H1) ∨ (SqT K H1 a xs ∧ R (IteT K a) H1))
theorem pi_enumA {e : Expr} {ta : TA} {p tpos : Pos} {elts : List Expr} {kk : Nat} (hg : Gl X "enumerate") (hm : X.mg "enumerate" = none) (ha : PA X [e] ta) (hs : starEach [e] X.env = [(false, eval e X.env)]) :
    PI X (.Tuple elts kk tpos) (.Call (.Name "enumerate" p) [e] [] pos) (iEnumA X.K ta) := by
  refine ⟨fun pins s σ H R I h => ?_⟩
  refine Call_ (ld_blt I hg hm boot_enumerate (PyProof.Rows.callWith_type1 (thn (ha.run pos pins s σ H _ I h) fun us s1 ⟨vs, H1, I1, r1, q1⟩ => ?_) hs rfl))
  obtain ⟨a, xs, ex, q⟩ := q1
  subst ex
  cases r1 with
  | cons r rr =>
    cases rr
    cases r
    have fin : ∀ b, b ∈ [s1.heap.objs.size + 1, s1.heap.objs.size] → FpOk X pins H1 b := fun b hb => by
      have e' : b = s1.heap.objs.size + 1 ∨ b = s1.heap.objs.size := by simpa using hb
      have hle : s1.heap.objs.size ≤ b := by
        rcases e' with z | z
        · rw [z]; exact Nat.le_add_right _ _
        · rw [z]; exact Nat.le_refl _
      exact I1.fpOk hle (I1.hok.fresh hle)
    rcases q with ⟨hq, q⟩ | ⟨hq, q⟩
    · obtain ⟨its, rv, p', hz⟩ := I1.list hq
      refine call_enumerate_list p'.isList fun h' he hit hsz hk => wpAny_pyIter_enum he ?_
      have I2 : Inv X pins σ H1 { s1 with heap := h' } := I1.kept (t' := s1.toks) hk
      exact ⟨s1.heap.objs.size + 1, [s1.heap.objs.size + 1, s1.heap.objs.size], _, _, H1, rfl, I2, turn_enum a (s1.heap.objs.size + 1) s1.heap.objs.size, ⟨⟨.none, he⟩, hit, Nat.succ_ne_self _⟩, fin, q⟩
    · obtain ⟨its, rv, p', hz⟩ := I1.tuple hq
      refine call_enumerate_B (begins_tuple a its.toArray) (show s1.heap.IsTuple a its.toArray from p') fun h' he hit hsz hk => wpAny_pyIter_enum he ?_
      have I2 : Inv X pins σ H1 { s1 with heap := h' } := I1.kept (t' := s1.toks) hk
      exact ⟨s1.heap.objs.size + 1, [s1.heap.objs.size + 1, s1.heap.objs.size], _, _, H1, rfl, I2, turn_enumT a (s1.heap.objs.size + 1) s1.heap.objs.size, ⟨⟨.none, he⟩, ⟨_, hit, rfl, rfl⟩, Nat.succ_ne_self _⟩, fin, q⟩
def iEnumF (f : AF) : IF := fun env hp => (f env hp).bind fun ds hp1 => match ds with
  | [.tup a] => .ok (.enum (.tup a)) hp1
  | [.ref n] => if (lsOf hp1 n).isSome then .ok (.enum (.lst n)) hp1 else .fail
  | _ => .fail
theorem snd_enumT {ds : List D} {a : Addr} {vs : List V} (s : SqT K H0 a vs) (r : Rs K ρ0 H0 ds vs) : SndIt K w (IteT K a) ρ0 H0 (.enum (.tup ds)) := by
  intro i ρ H hp l h
  have s' := l.tup _ _ s
  have r' := r.up l
  simp only [itemS]
  refine ⟨fun d e => ?_, fun e => ⟨vs, s', ?_⟩⟩
  · split at e
    · rename_i x e1
      cases e
      obtain ⟨v, ev, rv⟩ := r'.get (Option.some.inj e1)
      refine ⟨⟨vs, v, s', ev⟩, fun x H' y => ?_⟩
      obtain ⟨T, x1, rfl, hn, rfl, g1⟩ := y
      have q1 : v = x1 := Option.some.inj (ev.symm.trans (g1 vs s'))
      subst q1
      have l2 : Le K ρ H ρ (upd H T (.tup [.int (i : Nat), v])) := Le.new0 _ hn
      exact ⟨ρ, l2, h.tup hn, .tup (SqT.of upd_same) (.cons (.int _) (.cons (rv.up l2) .nil))⟩
    · cases e
    · cases e
  · split at e
    · cases e
    · rename_i e1
      rw [← r'.length]
      exact List.getElem?_eq_none_iff.mp (Option.some.inj e1)
    · cases e
theorem snd_enumL {n : Nat} {a : Addr} (e1 : ρ0[n]? = some a) : SndIt K w (Ite K a) ρ0 H0 (.enum (.lst n)) := by
  intro i ρ H hp l h
  have e2 := pre_get l.pre e1
  simp only [itemS]
  refine ⟨fun d e => ?_, fun e => ?_⟩
  · split at e
    · rename_i x e1
      cases e
      simp only [Option.map_eq_some_iff] at e1
      obtain ⟨xs, ex, e1⟩ := e1
      obtain ⟨vs, s, r⟩ := lsOf_sq h e2 ex
      obtain ⟨v, ev, rv⟩ := r.get e1
      refine ⟨⟨vs, v, s, ev⟩, fun x H' y => ?_⟩
      obtain ⟨T, x1, rfl, hn, rfl, g1⟩ := y
      have q1 : v = x1 := Option.some.inj (ev.symm.trans (g1 vs s))
      subst q1
      have l2 : Le K ρ H ρ (upd H T (.tup [.int (i : Nat), v])) := Le.new0 _ hn
      exact ⟨ρ, l2, h.tup hn, .tup (SqT.of upd_same) (.cons (.int _) (.cons (rv.up l2) .nil))⟩
    · cases e
    · cases e
  · split at e
    · cases e
    · rename_i e1
      simp only [Option.map_eq_some_iff] at e1
      obtain ⟨xs, ex, e1⟩ := e1
      obtain ⟨vs, s, r⟩ := lsOf_sq h e2 ex
      refine ⟨vs, s, ?_⟩
      rw [← r.length]
      exact List.getElem?_eq_none_iff.mp e1
    · cases e
theorem di_enum {e : Expr} {f : AF} {p tpos : Pos} {elts : List Expr} {kk : Nat} (hm : X.mg "enumerate" = none) (ha : PA X [e] (tA X.K X.w f)) (hg : Gl X "enumerate" := by rfl) (hs : starEach [e] X.env = [(false, eval e X.env)] := by rfl) :
    PI X (.Tuple elts kk tpos) (.Call (.Name "enumerate" p) [e] [] pos) (tI X.K X.w (iEnumF f)) := by
  refine piW (pi_enumA hg hm ha hs) fun σ H Rr h => ?_
  obtain ⟨ρ, env, hp, src, hp', a, e, q⟩ := h
  obtain ⟨d, hp1, e1, e2⟩ := Out.bind_ok e
  refine ⟨ρ, env, hp, d, hp1, a, e1, fun ρ1 H1 v l1 h1 r1 => ?_⟩
  split at e2
  · cases e2
    cases r1 with
    | cons r1 r2 =>
      cases r2
      cases r1 with
      | @tup _ p1 vs s r => exact ⟨p1, vs, rfl, .inr ⟨s, q ρ1 H1 _ l1 h1 (snd_enumT s r)⟩⟩
  · split at e2
    · rename_i n hz
      cases e2
      obtain ⟨xs, ex⟩ := Option.isSome_iff_exists.mp hz
      cases r1 with
      | cons r1 r2 =>
        cases r2
        cases r1 with
        | @ref _ p1 f1 =>
          obtain ⟨vs, s, _⟩ := lsOf_sq h1 f1 ex
          exact ⟨p1, vs, rfl, .inl ⟨s, q ρ1 H1 _ l1 h1 (snd_enumL f1)⟩⟩
    · cases e2
  · cases e2

/-! ### for -/
def forS (g : GF) (body : SF) (src : Src) : Nat → Nat → En → Ht → SO
  | 0, _, _, _ => .fail
  | m + 1, i, env, hp => match itemS src i hp with
    | none => .fail
    | some none => .nx env hp
    | some (some d) => (g d env hp).so fun env1 hp1 => match body env1 hp1 with
      | .nx env2 hp2 => forS g body src m (i + 1) env2 hp2
      | .ct env2 hp2 => forS g body src m (i + 1) env2 hp2
      | .bk env2 hp2 => .nx env2 hp2
      | x => x
def sFor (f : IF) (g : GF) (body : SF) : SF := fun env hp => (f env hp).so fun src hp1 => forS g body src (lenS src hp1 + 1) 0 env hp1
theorem d_for {is : List Nat} {iter : Expr} {body : List Stmt} {f : IF} {g : GF} {b : SF} (hpo : PassesOwn (model X.prog X.w) X.A X.env X.xe) (hc : X.calm = true) (hi : PI X tg iter (tI X.K X.w f)) (hg : PG X tg (tG X.K X.w is g)) (hb : PSs X body (tS X.K X.w b))
    (hs : ∀ x, foldedSetIterable iter X.env x = pure x := by intro _; rfl) : PS X (.For tg iter body [] pos) (tS X.K X.w (sFor f g b)) := by
  refine psW (ps_for hpo hc hi hg hb hs) fun D σ H h => ?_
  obtain ⟨ρ, env, hp, at', q⟩ := tS_iff.mp h
  obtain ⟨src, hp1, e1, q⟩ := q.so
  refine ⟨ρ, env, hp, src, hp1, at', e1, fun ρ1 H1 J l1 h1 sJ => ?_⟩
  have q1 := q.up l1
  refine ⟨fun i m σ H => ∃ ρ2 env2 hp2, Le X.K ρ1 H1 ρ2 H ∧ At X.K X.w ρ2 H env2 hp2 σ ∧ SPo X.K X.w ρ2 H D (forS g b src m i env2 hp2), ⟨_, ρ1, env, hp1, Le.refl _ _ _, at'.up l1 h1, q1⟩, fun i m σ H hW => ?_⟩
  obtain ⟨ρ2, env2, hp2, l2, a2, q2⟩ := hW
  cases m with
  | zero => exact q2.elim
  | succ m =>
    obtain ⟨z1, z2⟩ := sJ i ρ2 H hp2 l2 a2.hr
    unfold forS at q2
    cases ei : itemS src i hp2 with
    | none => rw [ei] at q2; exact q2.elim
    | some o =>
      rw [ei] at q2
      cases o with
      | none => exact .inl ⟨z2 ei, q2 ρ2 H σ (Le.refl _ _ _) a2⟩
      | some d =>
        simp only at q2
        obtain ⟨env3, hp3, eg, q3⟩ := q2.so
        obtain ⟨hgo, hy⟩ := z1 d ei
        refine .inr ⟨hgo, fun σ' H' => ∃ ρ4 env4 hp4, Le X.K ρ1 H1 ρ4 H' ∧ At X.K X.w ρ4 H' env4 hp4 σ' ∧ SPo X.K X.w ρ4 H' D (forS g b src m (i + 1) env4 hp4), fun σ' H' hN => ⟨m, Nat.lt_succ_self m, hN⟩, fun x H' y => ?_⟩
        obtain ⟨ρ5, l5, h5, r5⟩ := hy x H' y
        refine ⟨ρ5, env2, hp2, d, env3, hp3, a2.up l5 h5, r5, eg, fun ρ6 H6 σ6 l6 a6 _ => ?_⟩
        refine tS_iff.mpr ⟨ρ6, env3, hp3, a6, ?_⟩
        have l26 := l5.trans l6
        cases eb : b env3 hp3 with
        | nx env7 hp7 => rw [eb] at q3; exact fun ρ7 H7 σ7 l7 a7 => ⟨ρ7, env7, hp7, (l2.trans l26).trans l7, a7, q3.up (l26.trans l7)⟩
        | ct env7 hp7 => rw [eb] at q3; exact fun ρ7 H7 σ7 l7 a7 => ⟨ρ7, env7, hp7, (l2.trans l26).trans l7, a7, q3.up (l26.trans l7)⟩
        | bk env7 hp7 => rw [eb] at q3; exact fun ρ7 H7 σ7 l7 a7 => q3 ρ7 H7 σ7 (l26.trans l7) a7
        | rt d7 hp7 => rw [eb] at q3; exact fun ρ7 H7 v7 l7 h7 r7 => q3 ρ7 H7 v7 (l26.trans l7) h7 r7
        | exc _ _ => rw [eb] at q3; exact q3.elim
        | fail => rw [eb] at q3; exact q3.elim
/-! ### while -/
def whileS (c : BF) (body : SF) : Nat → En → Ht → SO
  | 0, _, _ => .fail
  | m + 1, env, hp => (c env hp).so fun k hp1 => if k = true then match body env hp1 with
      | .nx env2 hp2 => whileS c body m env2 hp2
      | .ct env2 hp2 => whileS c body m env2 hp2
      | .bk env2 hp2 => .nx env2 hp2
      | x => x
    else .nx env hp1
/-- so many turns at most: no loop of ours has as many -/
def fuelW : Nat := 1099511627776
def sWhile (c : BF) (body : SF) : SF := fun env hp => whileS c body fuelW env hp
theorem d_while {c : Expr} {body : List Stmt} {fc : BF} {b : SF} (hpo : PassesOwn (model X.prog X.w) X.A X.env X.xe) (hc : PT X c (tT X.K X.w fc)) (hb : PSs X body (tS X.K X.w b)) : PS X (.While c body [] pos) (tS X.K X.w (sWhile fc b)) := by
  refine psW (ps_while hpo hc hb) fun D σ H h => ?_
  obtain ⟨ρ, env, hp, at', q⟩ := tS_iff.mp h
  refine ⟨fun m σ H => ∃ ρ2 env2 hp2, At X.K X.w ρ2 H env2 hp2 σ ∧ SPo X.K X.w ρ2 H D (whileS fc b m env2 hp2), ⟨_, ρ, env, hp, at', q⟩, fun m σ H hW => ?_⟩
  obtain ⟨ρ2, env2, hp2, a2, q2⟩ := hW
  cases m with
  | zero => exact q2.elim
  | succ m =>
    unfold whileS at q2
    obtain ⟨k, hp3, e1, q2⟩ := q2.so
    refine ⟨ρ2, env2, hp2, k, hp3, a2, e1, fun ρ3 H3 l3 h3 => ?_⟩
    cases k with
    | false => exact q2 ρ3 H3 σ l3 (a2.up l3 h3)
    | true =>
      simp only [if_true] at q2 ⊢
      refine ⟨fun σ' H' => ∃ ρ4 env4 hp4, At X.K X.w ρ4 H' env4 hp4 σ' ∧ SPo X.K X.w ρ4 H' D (whileS fc b m env4 hp4), fun σ' H' hN => ⟨m, Nat.lt_succ_self m, hN⟩, tS_iff.mpr ⟨ρ3, env2, hp3, a2.up l3 h3, ?_⟩⟩
      cases eb : b env2 hp3 with
      | nx env7 hp7 => rw [eb] at q2; exact fun ρ7 H7 σ7 l7 a7 => ⟨ρ7, env7, hp7, a7, q2.up (l3.trans l7)⟩
      | ct env7 hp7 => rw [eb] at q2; exact fun ρ7 H7 σ7 l7 a7 => ⟨ρ7, env7, hp7, a7, q2.up (l3.trans l7)⟩
      | bk env7 hp7 => rw [eb] at q2; exact fun ρ7 H7 σ7 l7 a7 => q2 ρ7 H7 σ7 (l3.trans l7) a7
      | rt d7 hp7 => rw [eb] at q2; exact fun ρ7 H7 v7 l7 h7 r7 => q2 ρ7 H7 v7 (l3.trans l7) h7 r7
      | exc _ _ => rw [eb] at q2; exact q2.elim
      | fail => rw [eb] at q2; exact q2.elim

/-! ### comprehensions -/
def wipeD (env : En) : List Nat → En
  | [] => env
  | v :: vs => (wipeD env vs).set v none
def tYesF : BF := fun _ hp => .ok true hp
def lcS (g : GF) (t : BF) (e : EF) (src : Src) (n0 : Nat) (env : En) : Nat → Nat → Ht → Out D
  | 0, _, _ => .fail
  | m + 1, i, hp => match itemS src i hp with
    | none => .fail
    | some none => .ok (.ref n0) hp
    | some (some d) => (g d env hp).bind fun env1 hp1 => (t env1 hp1).bind fun k hp2 => if k = true then (e env1 hp2).bind fun y hp3 => match hp3[n0]? with
        | some (.lst acc) => if acc.length < sizeLine then lcS g t e src n0 env m (i + 1) (hp3.set n0 (.lst (acc ++ [y]))) else .fail
        | _ => .fail
      else lcS g t e src n0 env m (i + 1) hp2
def fLc (f : IF) (g : GF) (t : BF) (e : EF) (vs : List Nat) : EF := fun env hp => (f env hp).bind fun src hp1 => lcS g t e src hp1.length (wipeD env vs) (lenS src hp1 + 1) 0 (hp1 ++ [.lst []])
theorem er_wipe {env : En} {σ : L2.St} (h : ER K ρ H env σ) : ∀ vs : List Nat, ER K ρ H (wipeD env vs) (wipe σ vs)
  | [] => h
  | v :: vs => by
    have ih := er_wipe h vs
    refine ⟨by simp [wipeD, wipe, ih.len], fun j x e => ?_⟩
    unfold wipeD at e
    unfold wipe
    by_cases c : v = j
    · subst c
      by_cases hl : v < (wipeD env vs).length
      · rw [List.getElem?_set_self hl] at e
        cases e
      · rw [List.getElem?_eq_none (by simp; omega)] at e
        cases e
    · rw [List.getElem?_set_ne c] at e ⊢
      exact ih.get j x e
theorem wipe_mem {σ : L2.St} {j : Nat} : ∀ {vs : List Nat}, j ∈ vs → (wipe σ vs)[j]? = if j < σ.length then some none else none
  | v :: vs, h => by
    unfold wipe
    by_cases c : v = j
    · subst c
      by_cases hl : v < σ.length
      · rw [List.getElem?_set_self (by rw [wipe_length]; exact hl), if_pos hl]
      · rw [List.getElem?_eq_none (by simp [wipe_length]; omega), if_neg hl]
    · rw [List.getElem?_set_ne c]
      have h2 : j ∈ vs := by
        rcases List.mem_cons.mp h with e | h
        · exact absurd e.symm c
        · exact h
      exact wipe_mem h2
theorem wipe_same {is vs : List Nat} {a b : L2.St} (h : Same' is a b) (hi : ∀ i ∈ is, i ∈ vs) : wipe b vs = wipe a vs := by
  apply List.ext_getElem?
  intro j
  by_cases c : j ∈ vs
  · rw [wipe_mem c, wipe_mem c, h.1]
  · rw [wipe_out c, wipe_out c, h.2 j fun z => c (hi j z)]
theorem wipe_wipe (σ : L2.St) (vs : List Nat) : wipe (wipe σ vs) vs = wipe σ vs := by
  apply List.ext_getElem?
  intro j
  by_cases c : j ∈ vs
  · rw [wipe_mem c, wipe_mem c, wipe_length]
  · rw [wipe_out c]
/-- a comprehension's reading from data -/
theorem lcI {f : IF} {g : GF} {t : BF} {e : EF} {is vs : List Nat} (hi : ∀ i ∈ is, i ∈ vs) {σ : L2.St} {H : Hp} {Q : VK} (h : tE K w (fLc f g t e vs) σ H Q) : tLc (tI K w f) (tG K w is g) (tT K w t) (tE K w e) vs σ H Q := by
  obtain ⟨ρ, env, hp, d, hp', at', ee, q⟩ := h
  obtain ⟨src, hp1, e1, e2⟩ := Out.bind_ok ee
  refine ⟨ρ, env, hp, src, hp1, at', e1, fun ρ1 H1 J l1 h1 sJ L hn => ?_⟩
  obtain ⟨h2, r2⟩ := newLst h1 hn (Rs.nil (K := K) (ρ := ρ1) (H := H1))
  have lnew : Le K ρ1 H1 (ρ1 ++ [L]) (upd H1 L (.lst [])) := Le.new _ hn _
  refine ⟨fun i m H2 => ∃ ρ2 hp2, Le K (ρ1 ++ [L]) (upd H1 L (.lst [])) ρ2 H2 ∧ HR K w ρ2 H2 hp2 ∧ lcS g t e src hp1.length (wipeD env vs) m i hp2 = .ok d hp', ⟨_, ρ1 ++ [L], _, Le.refl _ _ _, h2, e2⟩, fun i m H2 hW => ?_⟩
  obtain ⟨ρ2, hp2, l2, h2', e3⟩ := hW
  have rL : R K ρ2 H2 (.ref hp1.length) (.ref L) := r2.up l2
  have gL : ρ2[hp1.length]? = some L := by cases rL with | ref z => exact z
  cases m with
  | zero => cases e3
  | succ m =>
    obtain ⟨z1, z2⟩ := sJ i ρ2 H2 hp2 (lnew.trans l2) h2'
    unfold lcS at e3
    cases ei : itemS src i hp2 with
    | none => rw [ei] at e3; cases e3
    | some o =>
      rw [ei] at e3
      cases o with
      | none =>
        cases e3
        exact .inl ⟨z2 ei, q ρ2 H2 _ ((l1.trans lnew).trans l2) h2' rL⟩
      | some x =>
        simp only at e3
        obtain ⟨env3, hp3, eg, e4⟩ := Out.bind_ok e3
        obtain ⟨k, hp4, et, e5⟩ := Out.bind_ok e4
        obtain ⟨hgo, hy⟩ := z1 x ei
        refine .inr ⟨hgo, fun H' => ∃ ρ3 hp5, Le K (ρ1 ++ [L]) (upd H1 L (.lst [])) ρ3 H' ∧ HR K w ρ3 H' hp5 ∧ lcS g t e src hp1.length (wipeD env vs) m (i + 1) hp5 = .ok d hp', fun H' hN => ⟨m, Nat.lt_succ_self m, hN⟩, fun v H' y => ?_⟩
        obtain ⟨ρ5, l5, h5, r5⟩ := hy v H' y
        have erw : ER K ρ5 H' (wipeD env vs) (wipe σ vs) := er_wipe (at'.er.up (((l1.trans lnew).trans l2).trans l5)) vs
        refine ⟨ρ5, wipeD env vs, hp2, x, env3, hp3, ⟨h5, erw⟩, r5, eg, fun ρ6 H6 σ6 l6 a6 s6 => ⟨?_, ?_⟩⟩
        · rw [wipe_same s6 hi, wipe_wipe]
        · refine ⟨ρ6, env3, hp3, k, hp4, a6, et, fun ρ7 H7 l7 h7 => ?_⟩
          have l07 := ((l2.trans l5).trans l6).trans l7
          cases k with
          | false => exact ⟨ρ7, hp4, l07, h7, e5⟩
          | true =>
            simp only [if_true] at e5 ⊢
            obtain ⟨yv, hp8, ey, e6⟩ := Out.bind_ok e5
            refine ⟨ρ7, env3, hp4, yv, hp8, a6.up l7 h7, ey, fun ρ8 H8 v8 l8 h8 r8 => ?_⟩
            split at e6
            · rename_i acc eacc
              split at e6
              · rename_i hz
                have gL8 : ρ8[hp1.length]? = some L := pre_get (((l5.trans l6).trans l7).trans l8).pre gL
                obtain ⟨ws, ew, rw'⟩ := h8.obj _ L _ gL8 eacc
                obtain ⟨l9, h9⟩ := putLst' h8 gL8 eacc ew (rw'.append (.cons r8 .nil))
                exact ⟨ws, ew, by rw [← rw'.length]; exact hz, ρ8, _, (l07.trans l8).trans l9, h9, e6⟩
              · cases e6
            · cases e6
theorem d_yes : PTs X [] (tT X.K X.w tYesF) := by
  refine ⟨fun pins s σ H Q I h => pts_nil.run pins s σ H Q I ?_⟩
  obtain ⟨ρ, env, hp, k, hp', a, e, q⟩ := h
  cases e
  exact q ρ H (Le.refl _ _ _) a.hr
theorem d_lc {elt iter : Expr} {ifs : List Expr} {scope : Scope} (own : List (Str × Nat)) {is : List Nat} {f : IF} {g : GF} {t : BF} {e : EF} (hc : X.calm = true) (hN : X.N.Nodup) (hi : PI X tg iter (tI X.K X.w f)) (ok : blkC X.N X.env.scope scope own = true)
    (hg : ∀ (s : Shared) (H : Hp) (C : Addr) (cl : List (Str × Addr)) (fp : List Addr), PG (X.blk s H scope (compEnvC scope cl C X.env) fp) tg (tG X.K X.w is g)) (ht : ∀ (s : Shared) (H : Hp) (C : Addr) (cl : List (Str × Addr)) (fp : List Addr), PTs (X.blk s H scope (compEnvC scope cl C X.env) fp) ifs (tT X.K X.w t))
    (he : ∀ (s : Shared) (H : Hp) (C : Addr) (cl : List (Str × Addr)) (fp : List Addr), PE (X.blk s H scope (compEnvC scope cl C X.env) fp) elt (tE X.K X.w e)) (his : ∀ i ∈ is, i ∈ own.map (·.2) := by decide) (hs : ∀ x, foldedSetIterable iter X.env x = pure x := by intro _; rfl) :
    PE X (.ListComp elt [⟨tg, iter, ifs, 0⟩] scope pos) (tE X.K X.w (fLc f g t e (own.map (·.2)))) :=
  peW (pe_lc hc hN hi (blkOk_by ok) hg ht he hs) fun _ _ _ h => lcI his h
theorem d_setLc (i : Nat) {y : Str} {py spos : Pos} {elt iter : Expr} {ifs : List Expr} {scope : Scope} (own : List (Str × Nat)) {is : List Nat} {f : IF} {g : GF} {t : BF} {e : EF} (hc : X.calm = true) (hN : X.N.Nodup) (hi : PI X tg iter (tI X.K X.w f)) (ok : blkC X.N X.env.scope scope own = true)
    (hg : ∀ (s : Shared) (H : Hp) (C : Addr) (cl : List (Str × Addr)) (fp : List Addr), PG (X.blk s H scope (compEnvC scope cl C X.env) fp) tg (tG X.K X.w is g)) (ht : ∀ (s : Shared) (H : Hp) (C : Addr) (cl : List (Str × Addr)) (fp : List Addr), PTs (X.blk s H scope (compEnvC scope cl C X.env) fp) ifs (tT X.K X.w t))
    (he : ∀ (s : Shared) (H : Hp) (C : Addr) (cl : List (Str × Addr)) (fp : List Addr), PE (X.blk s H scope (compEnvC scope cl C X.env) fp) elt (tE X.K X.w e))
    (hy : X.N[i]? = some y := by rfl) (hyl : X.env.scope.names.lookup y = some .local := by rfl) (hsw : swapsWith (.ListComp elt [⟨tg, iter, ifs, 0⟩] scope pos) (some (.Name y py)) spos.line X.env = pure true := by exact sw_true rfl rfl rfl (by decide +kernel))
    (his : ∀ i ∈ is, i ∈ own.map (·.2) := by decide) (hs : ∀ x, foldedSetIterable iter X.env x = pure x := by intro _; rfl) :
    PS X (.Assign [.Name y py] (.ListComp elt [⟨tg, iter, ifs, 0⟩] scope pos) spos) (tS X.K X.w (sAsg (fLc f g t e (own.map (·.2))) (gN i))) := by
  refine psW (ps_setLc hc hN hy hyl hsw hi (blkOk_by ok) hg ht he hs) fun D σ H h => ?_
  obtain ⟨ρ, env, hp, at', q⟩ := tS_iff.mp h
  obtain ⟨d, hp1, e1, q⟩ := q.so
  obtain ⟨env1, hp2, e2, q⟩ := q.so
  cases e2
  exact lcI his ⟨ρ, env, hp, d, hp1, at', e1, fun ρ1 H1 v l1 h1 r1 => q ρ1 H1 _ l1 ⟨h1, (at'.er.up l1).set r1⟩⟩
end
end DL
set_option Elab.async false
set_option linter.all false
set_option maxRecDepth 100000
set_option maxHeartbeats 4000000
namespace DL
open PySem PySem.Spec PyProof.Rows L2

/-! ### defs -/
def startD (n : Nat) (ds : List D) : En := ds.map some ++ List.replicate (n - ds.length) none
def runDef (np n : Nat) (body : SF) : OpN := fun ds hp => if ds.length = np then match body (startD n ds) hp with
  | .rt d hp' => .ok d hp'
  | .nx _ hp' => .ok .non hp'
  | .exc x hp' => .exc x hp'
  | _ => .fail
  else .fail
/-- what a def of data promises -/
def spD (K : PySem.W.Frag) (w : World) (np : Nat) (F : OpN) : Sp := fun vs H Q _ => vs.length = np ∧ ∃ ρ hp ds d hp', HR K w ρ H hp ∧ Rs K ρ H ds vs ∧ F ds hp = .ok d hp' ∧ ∀ ρ' H' v, Le K ρ H ρ' H' → HR K w ρ' H' hp' → R K ρ' H' d v → Q v H'
theorem er_start {K : PySem.W.Frag} {ρ : List Addr} {H : Hp} {N : List Str} {ds : List D} {vs : List V} (r : Rs K ρ H ds vs) : ER K ρ H (startD N.length ds) (L2.start N vs) := by
  have hl := r.length
  refine ⟨by simp [startD, L2.start, hl], fun i d e => ?_⟩
  unfold startD at e
  unfold L2.start
  by_cases c : i < ds.length
  · rw [List.getElem?_append_left (by simpa using c), List.getElem?_map] at e
    rw [List.getElem?_append_left (by simpa [← hl] using c), List.getElem?_map]
    cases ei : ds[i]? with
    | none => rw [ei] at e; cases e
    | some d' =>
      rw [ei] at e
      cases e
      obtain ⟨v, ev, rv⟩ := r.get ei
      exact ⟨v, by rw [ev]; rfl, rv⟩
  · rw [List.getElem?_append_right (by simpa using c)] at e
    obtain ⟨_, e⟩ := List.getElem?_eq_some_iff.mp e
    simp at e
section
variable {P : Program} {w : World} {K : PySem.W.Frag} {mg : Str → Option Value} {base : Heap}
theorem okD {x qual : Str} {st : Stmt} {f : Addr} {fd : FuncData} {N ps : List Str} {k : Nat} {g : SF} (F : Fun K x qual st f fd) (S : FnScope N ps (defScope st))
    (hbody : ∀ (cdv : Value) (A : Around) (outer : List Env) (s : Shared) (H : Hp) (E : XK), Room k (A.deeper (envOfC qual (defScope st) s.heap.objs.size f cdv)) →
      PSs (cxOf CX0 P w K mg base N qual (defScope st) f cdv A outer s H E).nox (defBody st) (tS K w g)) : FnOk P w K mg base CX0 (k + 1) f fd ps (spD K w ps.length (runDef ps.length N.length g)) := by
  refine F.ok S (fun vs H Q E h => h.1) fun cdv A outer s H vs Q E hr h => ⟨_, hbody cdv A outer s H E hr, ?_⟩
  obtain ⟨hl, ρ, hp, ds, d, hp', hh, r, e, q⟩ := h
  refine tS_iff.mpr ⟨ρ, startD N.length ds, hp, ⟨hh, er_start r⟩, ?_⟩
  unfold runDef at e
  split at e
  · split at e
    · rename_i d' hp2 eb
      rw [eb]
      cases e
      exact fun ρ' H' v l h' r' => q ρ' H' v l h' r'
    · rename_i env2 hp2 eb
      rw [eb]
      cases e
      exact fun ρ' H' σ' l a => q ρ' H' .non l a.hr .non
    · cases e
    · cases e
  · cases e
/-- a def that may be called by a name: F is what it does to the arguments that are written -/
structure CalD (P : Program) (w : World) (K : PySem.W.Frag) (mg : Str → Option Value) (base : Heap) (k : Nat) (x : Str) (F : OpN) : Prop where
  ok : ∃ (f : Addr) (fd : FuncData) (ps : List Str) (ds : List Value) (dvs : List V) (dd : List D) (np : Nat) (G : OpN), FnOk P w K mg base CX0 k f fd ps (spD K w np G) ∧ mg x = some (.ref f) ∧ PySem.W.keepIn K (.ref f) = true ∧ Binds K fd ps ds ∧ Vals dvs ds ∧
    (∀ ρ H, Rs K ρ H dd dvs) ∧ (∀ xs hp d hp', F xs hp = .ok d hp' → (xs ++ dd).length = np ∧ G (xs ++ dd) hp = .ok d hp')
theorem CalD.mono {j k : Nat} {x : Str} {F : OpN} (c : CalD P w K mg base j x F) (h : j ≤ k) : CalD P w K mg base k x F := by
  obtain ⟨f, fd, ps, ds, dvs, dd, np, G, h1, h2⟩ := c.ok
  exact ⟨f, fd, ps, ds, dvs, dd, np, G, h1.mono h, h2⟩
/-- another data function that gives the same -/
theorem CalD.imp {k : Nat} {x : Str} {F F' : OpN} (c : CalD P w K mg base k x F) (h : ∀ xs hp d hp', F' xs hp = .ok d hp' → F xs hp = .ok d hp') : CalD P w K mg base k x F' := by
  obtain ⟨f, fd, ps, ds, dvs, dd, np, G, h1, h2, h3, h4, h5, h6, h7⟩ := c.ok
  exact ⟨f, fd, ps, ds, dvs, dd, np, G, h1, h2, h3, h4, h5, h6, fun xs hp d hp' e => h7 xs hp d hp' (h xs hp d hp' e)⟩
theorem runDef_len {np n : Nat} {g : SF} {xs : List D} {hp hp' : Ht} {d : D} (h : runDef np n g xs hp = .ok d hp') : xs.length = np := by
  unfold runDef at h
  split at h
  · assumption
  · cases h
/-- all parameters are written -/
theorem calD {k np n : Nat} {x : Str} {f : Addr} {fd : FuncData} {ps : List Str} {g : SF} (F : FnOk P w K mg base CX0 k f fd ps (spD K w np (runDef np n g))) (hm : mg x = some (.ref f)) (hk : PySem.W.keepIn K (.ref f) = true) (hb : Binds K fd ps []) : CalD P w K mg base k x (runDef np n g) :=
  ⟨f, fd, ps, [], [], [], np, _, F, hm, hk, hb, .nil, fun _ _ => .nil, fun xs hp d hp' e => by rw [List.append_nil]; exact ⟨runDef_len e, e⟩⟩
/-- the last ones take their defaults -/
theorem calDflt {k np n : Nat} {x : Str} {f : Addr} {fd : FuncData} {ps : List Str} {g : SF} {ds : List Value} {dvs : List V} (dd : List D) (F : FnOk P w K mg base CX0 k f fd ps (spD K w np (runDef np n g))) (hm : mg x = some (.ref f)) (hk : PySem.W.keepIn K (.ref f) = true) (hb : Binds K fd ps ds) (hv : Vals dvs ds) (hd : ∀ ρ H, Rs K ρ H dd dvs) :
    CalD P w K mg base k x (fun xs hp => runDef np n g (xs ++ dd) hp) :=
  ⟨f, fd, ps, ds, dvs, dd, np, _, F, hm, hk, hb, hv, hd, fun xs hp d hp' e => ⟨runDef_len e, e⟩⟩
end
section
variable {X : Cx} {pos p : Pos} {x : Str} {e : Expr} {es : List Expr} {fa : AF} {F : OpN} {k j : Nat}
theorem d_call (c : CalD X.prog X.w X.K X.mg X.base k x F) (hr : Room j X.A) (hkj : k ≤ j) (ha : PA X (e :: es) (tA X.K X.w fa)) (hg : Gl X x := by rfl) (hdb : (x == ("__debug__" : Str)) = false := by decide) (he : starEach (e :: es) X.env = (false, eval e X.env) :: starEach es X.env := by rfl) (hpl : (backTo pos (starEach es X.env)).any (·.1) = false := by rfl) :
    PE X (.Call (.Name x p) (e :: es) [] pos) (tE X.K X.w (fCall F fa)) := by
  obtain ⟨f, fd, ps, ds, dvs, dd, np, G, h1, h2, h3, h4, h5, h6, h7⟩ := c.ok
  refine peW (pe_call h1 (hr.mono hkj) hg h2 h3 h4 h5 pass0 ha hdb he hpl) fun σ H Q h => ?_
  obtain ⟨ρ, env, hp, d, hp', at', ee, q⟩ := h
  obtain ⟨xs, hp1, e1, e2⟩ := Out.bind_ok ee
  obtain ⟨g1, g2⟩ := h7 xs hp1 d hp' e2
  refine ⟨ρ, env, hp, xs, hp1, at', e1, fun ρ1 H1 us l1 hh1 r1 => ⟨?_, ρ1, hp1, xs ++ dd, d, hp', hh1, r1.append (h6 ρ1 H1), g2, fun ρ2 H2 v l2 hh2 r2 => q ρ2 H2 v (l1.trans l2) hh2 r2⟩⟩
  have := (r1.append (h6 ρ1 H1)).length
  rw [← this]
  exact g1
theorem d_call0 {F : OpN} (c : CalD X.prog X.w X.K X.mg X.base k x F) (hr : Room j X.A) (hkj : k ≤ j) (hg : Gl X x := by rfl) (hdb : (x == ("__debug__" : Str)) = false := by decide) :
    PE X (.Call (.Name x p) [] [] pos) (tE X.K X.w (fCall F fNil)) := by
  obtain ⟨f, fd, ps, ds, dvs, dd, np, G, h1, h2, h3, h4, h5, h6, h7⟩ := c.ok
  refine peW (pe_call0 h1 (hr.mono hkj) hg h2 h3 h4 h5 pass0 hdb) fun σ H Q h => ?_
  obtain ⟨ρ, env, hp, d, hp', at', ee, q⟩ := h
  obtain ⟨xs, hp1, e1, e2⟩ := Out.bind_ok ee
  cases e1
  obtain ⟨g1, g2⟩ := h7 [] hp d hp' e2
  refine ⟨?_, ρ, hp, [] ++ dd, d, hp', at'.hr, h6 ρ H, g2, fun ρ2 H2 v l2 hh2 r2 => q ρ2 H2 v l2 hh2 r2⟩
  have := (h6 ρ H).length
  show ([] ++ dvs).length = np
  rw [List.nil_append, ← this]
  exact g1
end

/-! ### calls with keywords -/
section
variable {P : Program} {w : World} {K : PySem.W.Frag} {mg : Str → Option Value} {base : Heap}
/-- F: what it does to the positional arguments and, behind them, the keywords' in the call's order -/
structure CalK (P : Program) (w : World) (K : PySem.W.Frag) (mg : Str → Option Value) (base : Heap) (k : Nat) (x : Str) (ks : List Str) (gD : List D → List D → List D) (F : OpN) : Prop where
  ok : ∃ (f : Addr) (fd : FuncData) (ps : List Str) (np : Nat) (g : List Value → List Value → List Value) (gV : List V → List V → List V), FnOk P w K mg base CX0 k f fd ps (spD K w np F) ∧ mg x = some (.ref f) ∧ PySem.W.keepIn K (.ref f) = true ∧ KBinds K fd ps ks g gV ∧
    (∀ ρ H xs us zs ws, Rs K ρ H xs us → Rs K ρ H zs ws → Rs K ρ H (gD xs zs) (gV us ws)) ∧ (∀ xs hp d hp', F xs hp = .ok d hp' → xs.length = np)
end
section
variable {X : Cx} {pos p : Pos} {x : Str} {e : Expr} {es : List Expr} {fa fk : AF} {F : OpN} {k j : Nat} {ks : List Str} {kws : List Keyword} {gD : List D → List D → List D}
def PKd (X : Cx) (kws : List Keyword) (f : AF) : Prop := PK X kws (tA X.K X.w f)
theorem pkW {kws : List Keyword} {t t' : TA} (h : PK X kws t) (i : ∀ σ H Q, t' σ H Q → t σ H Q) : PK X kws t' := ⟨fun pos pins s σ H Q I q => h.run pos pins s σ H Q I (i σ H Q q)⟩
theorem dk_nil : PK X [] (tA X.K X.w fNil) := by
  refine pkW pk_nil fun σ H Q h => ?_
  obtain ⟨ρ, env, hp, ds, hp', a, e, q⟩ := h
  cases e
  exact q ρ H [] (Le.refl _ _ _) a.hr .nil
theorem dk_cons {nm : Option Str} {kpos : Pos} {e : Expr} {f : EF} {fr : AF} (ha : PE X e (tE X.K X.w f)) (hr : PK X kws (tA X.K X.w fr)) : PK X (⟨nm, e, kpos⟩ :: kws) (tA X.K X.w (fCons f fr)) := by
  refine pkW (pk_cons ha hr) fun σ H Q h => ?_
  obtain ⟨ρ, env, hp, ds, hp', a, e, q⟩ := h
  obtain ⟨x, hp1, e1, e2⟩ := Out.bind_ok e
  obtain ⟨xs, hp2, e3, e4⟩ := Out.bind_ok e2
  cases e4
  refine ⟨ρ, env, hp, x, hp1, a, e1, fun ρ1 H1 u l1 h1 r1 => ⟨ρ1, env, hp1, xs, hp', a.up l1 h1, e3, fun ρ2 H2 us l2 h2 r2 => ?_⟩⟩
  exact q ρ2 H2 (u :: us) (l1.trans l2) h2 (.cons (r1.up l2) r2)
def fCallK (gD : List D → List D → List D) (F : OpN) (fa fk : AF) : EF := fun env hp => (fa env hp).bind fun xs hp1 => (fk env hp1).bind fun zs hp2 => F (gD xs zs) hp2
theorem d_callK (c : CalK X.prog X.w X.K X.mg X.base k x ks gD F) (hr : Room j X.A) (hkj : k ≤ j) (ha : PA X (e :: es) (tA X.K X.w fa)) (hkw : PK X kws (tA X.K X.w fk)) (hg : Gl X x := by rfl)
    (hall : (backToKw pos (keywordEach kws X.env)).all (·.1.isSome) = true := by rfl) (hks : (backToKw pos (keywordEach kws X.env)).filterMap (·.1) = ks := by rfl)
    (hdb : (x == ("__debug__" : Str)) = false := by decide) (he : starEach (e :: es) X.env = (false, eval e X.env) :: starEach es X.env := by rfl)
    (hpl : ((backTo pos (starEach (e :: es) X.env)).any (·.1) || (backToKw pos (keywordEach kws X.env)).any (·.1.isNone)) = false := by rfl) : PE X (.Call (.Name x p) (e :: es) kws pos) (tE X.K X.w (fCallK gD F fa fk)) := by
  obtain ⟨f, fd, ps, np, g, gV, h1, h2, h3, h4, h5, h6⟩ := c.ok
  refine peW (pe_callK h1 (hr.mono hkj) hg h2 h3 h4 pass0 ha hkw hall hks hdb he hpl) fun σ H Q h => ?_
  obtain ⟨ρ, env, hp, d, hp', at', ee, q⟩ := h
  obtain ⟨xs, hp1, e1, e2⟩ := Out.bind_ok ee
  obtain ⟨zs, hp2, e3, e4⟩ := Out.bind_ok e2
  refine ⟨ρ, env, hp, xs, hp1, at', e1, fun ρ1 H1 us l1 hh1 r1 => ⟨ρ1, env, hp1, zs, hp2, at'.up l1 hh1, e3, fun ρ2 H2 ws l2 hh2 r2 => ?_⟩⟩
  have r3 := h5 ρ2 H2 xs us zs ws (r1.up l2) r2
  exact ⟨by rw [← r3.length]; exact h6 _ _ _ _ e4, ρ2, hp2, gD xs zs, d, hp', hh2, r3, e4, fun ρ3 H3 v l3 hh3 r3 => q ρ3 H3 v ((l1.trans l2).trans l3) hh3 r3⟩
end

/-! ### list(range(..)), tuple(range(..)) -/
section
variable {X : Cx} {pos p p2 pos2 : Pos}
def rgD (lo hi : Int) : List D := (List.range (hi - lo).toNat).map fun i => D.int (lo + (i : Nat))
theorem rgD_rs {K : PySem.W.Frag} {ρ : List Addr} {H : Hp} (lo hi : Int) : Rs K ρ H (rgD lo hi) (rgV lo hi) := by
  unfold rgD rgV
  generalize List.range (hi - lo).toNat = l
  induction l with
  | nil => exact .nil
  | cons i l ih => exact .cons (.int _) ih
abbrev RF := En → Ht → Out (Int × Int)
def fRg1 (f : EF) : RF := fun env hp => (f env hp).bind fun d hp1 => match d with
  | .int n => .ok (0, n) hp1
  | _ => .fail
def fRg2 (f g : EF) : RF := fun env hp => (f env hp).bind fun d hp1 => (g env hp1).bind fun e hp2 => match d, e with
  | .int i, .int j => .ok (i, j) hp2
  | _, _ => .fail
def rgOk (a b : Int) : Bool := decide (Sm a ∧ Sm b ∧ (b - a).toNat ≤ 16777216)
def fLstRg (f : RF) : EF := fun env hp => (f env hp).bind fun r hp1 => if rgOk r.1 r.2 = true then .ok (.ref hp1.length) (hp1 ++ [.lst (rgD r.1 r.2)]) else .fail
def fTupRg (f : RF) : EF := fun env hp => (f env hp).bind fun r hp1 => if rgOk r.1 r.2 = true then .ok (.tup (rgD r.1 r.2)) hp1 else .fail
def tR (K : PySem.W.Frag) (w : World) (f : RF) : L2.St → Hp → (Int → Int → Hp → Prop) → Prop := fun σ H Q => ∃ ρ env hp r hp', At K w ρ H env hp σ ∧ f env hp = .ok r hp' ∧ ∀ ρ' H', Le K ρ H ρ' H' → HR K w ρ' H' hp' → Q r.1 r.2 H'
theorem prgW {e : Expr} {t t' : L2.St → Hp → (Int → Int → Hp → Prop) → Prop} (h : PRg X e t) (i : ∀ σ H Q, t' σ H Q → t σ H Q) : PRg X e t' := by
  intro pins s σ H Q I q
  exact h pins s σ H Q I (i σ H Q q)
theorem d_rg1 {a : Expr} {f : EF} (hm : X.mg "range" = none) (ha : PE X a (tE X.K X.w f)) (hg : Gl X "range" := by rfl) (na : starEach [a] X.env = (false, eval a X.env) :: starEach [] X.env := by rfl) : PRg X (.Call (.Name "range" p) [a] [] pos) (tR X.K X.w (fRg1 f)) := by
  refine prgW (prg_1 hg hm ha na) fun σ H Q h => ?_
  obtain ⟨ρ, env, hp, r, hp', a, e, q⟩ := h
  obtain ⟨x, hp1, e1, e2⟩ := Out.bind_ok e
  refine ⟨ρ, env, hp, x, hp1, a, e1, fun ρ1 H1 v l1 h1 r1 => ?_⟩
  cases x with
  | int i => cases e2; cases r1; exact ⟨_, rfl, q ρ1 H1 l1 h1⟩
  | _ => cases e2
theorem d_rg2 {a b : Expr} {f g : EF} (hm : X.mg "range" = none) (ha : PE X a (tE X.K X.w f)) (hb : PE X b (tE X.K X.w g)) (hg : Gl X "range" := by rfl) (na : starEach [a, b] X.env = (false, eval a X.env) :: starEach [b] X.env := by rfl)
    (nb : starEach [b] X.env = (false, eval b X.env) :: starEach [] X.env := by rfl) (hpl : (backTo pos (starEach [b] X.env)).any (·.1) = false := by rfl) : PRg X (.Call (.Name "range" p) [a, b] [] pos) (tR X.K X.w (fRg2 f g)) := by
  refine prgW (prg_2 hg hm ha hb na nb hpl) fun σ H Q h => ?_
  obtain ⟨ρ, env, hp, r, hp', a, e, q⟩ := h
  obtain ⟨x, hp1, e1, e2⟩ := Out.bind_ok e
  obtain ⟨y, hp2, e3, e4⟩ := Out.bind_ok e2
  refine ⟨ρ, env, hp, x, hp1, a, e1, fun ρ1 H1 v l1 h1 r1 => ⟨ρ1, env, hp1, y, hp2, a.up l1 h1, e3, fun ρ2 H2 v2 l2 h2 r2 => ?_⟩⟩
  have r1' := r1.up l2
  split at e4
  · cases e4; cases r1'; cases r2; exact ⟨_, _, rfl, rfl, q ρ2 H2 (l1.trans l2) h2⟩
  · cases e4
theorem rgOk_of {a b : Int} (h : rgOk a b = true) : RgOk a b := by
  have h2 := of_decide_eq_true (p := Sm a ∧ Sm b ∧ (b - a).toNat ≤ 16777216) h
  have e : (2 : Nat) ^ 24 = 16777216 := by decide
  exact ⟨h2.1.b62.1, h2.1.b62.2, h2.2.1.b62.1, h2.2.1.b62.2, by rw [e]; exact h2.2.2⟩
theorem d_lstRg {e : Expr} {f : RF} (hc : X.calm = true) (hm : X.mg "list" = none) (he : PRg X e (tR X.K X.w f)) (hg : Gl X "list" := by rfl) (na : starEach [e] X.env = (false, eval e X.env) :: starEach [] X.env := by rfl) : PE X (.Call (.Name "list" p) [e] [] pos) (tE X.K X.w (fLstRg f)) := by
  refine peW (pe_listRg hc hg hm he na) fun σ H Q h => ?_
  obtain ⟨ρ, env, hp, r, hp', a, e, q⟩ := h
  obtain ⟨x, hp1, e1, e2⟩ := Out.bind_ok e
  refine ⟨ρ, env, hp, x, hp1, a, e1, fun ρ1 H1 l1 h1 => ?_⟩
  split at e2
  · rename_i hz
    cases e2
    refine ⟨rgOk_of hz, fun p hn => ?_⟩
    obtain ⟨q1, q2⟩ := newLst h1 hn (rgD_rs x.1 x.2)
    exact q _ _ _ (l1.trans (Le.new _ hn _)) q1 q2
  · cases e2
theorem d_tupRg {e : Expr} {f : RF} (hc : X.calm = true) (hm : X.mg "tuple" = none) (he : PRg X e (tR X.K X.w f)) (hg : Gl X "tuple" := by rfl) (na : starEach [e] X.env = (false, eval e X.env) :: starEach [] X.env := by rfl) : PE X (.Call (.Name "tuple" p) [e] [] pos) (tE X.K X.w (fTupRg f)) := by
  refine peW (pe_tupRg hc hg hm he na) fun σ H Q h => ?_
  obtain ⟨ρ, env, hp, r, hp', a, e, q⟩ := h
  obtain ⟨x, hp1, e1, e2⟩ := Out.bind_ok e
  refine ⟨ρ, env, hp, x, hp1, a, e1, fun ρ1 H1 l1 h1 => ?_⟩
  split at e2
  · rename_i hz
    cases e2
    refine ⟨rgOk_of hz, fun p hn => ?_⟩
    exact q _ _ _ (l1.trans (Le.new0 _ hn)) (h1.tup hn) (.tup (SqT.of upd_same) (rgD_rs x.1 x.2))
  · cases e2
end
end DL
set_option Elab.async false
set_option linter.all false
set_option maxRecDepth 100000
set_option maxHeartbeats 4000000
namespace DL
open PySem PySem.Spec PyProof.Rows L2

/-! ### dicts with keys of any kind: the look-up -/
section
variable {prog : Program} {w : World} {A : Around} {E : Value → Shared → Prop} {s : Shared}
structure KeysAt (w : World) (h : Heap) (ks : List NestedKey) (es : Array DictEntry) : Prop where
  len : ks.length = es.size
  nd : ks.Nodup
  at_ : ∀ (j : Nat) (e : DictEntry), es[j]? = some e → ∃ k, ks[j]? = some k ∧ NestedIs h k e.key ∧ e.hash = k.hash w ∧ k.depth ≤ 8
theorem KeysAt.uniq {h : Heap} {ks : List NestedKey} {es : Array DictEntry} (K : KeysAt w h ks es) {i j : Nat} {k : NestedKey} (a : ks[i]? = some k) (b : ks[j]? = some k) : i = j := by
  obtain ⟨h1, e1⟩ := List.getElem?_eq_some_iff.mp a
  obtain ⟨h2, e2⟩ := List.getElem?_eq_some_iff.mp b
  exact (List.getElem_inj K.nd).mp (e1.trans e2.symm)
theorem quietV {n : Nat} {k : NestedKey} {v : Value} (h : NestedIs s.heap k v) (hd : k.depth ≤ n) : QuietAt prog w n s v := quiet_key k v n s h hd
theorem tells_any {key : Value} {nk : NestedKey} {stored : List Value} {Q : Bool → Shared → Prop} (hkey : NestedIs s.heap nk key) (hd : nk.depth ≤ 8)
    (hst : ∀ v ∈ stored, ∃ k', NestedIs s.heap k' v ∧ k'.depth ≤ 8) (h : Q false s) : wpAny (model prog w) A (tableMayTell key stored) Q E s := by
  unfold tableMayTell
  split
  · exact wpAny_pure h
  · refine wpAny_bind (quietV hkey hd _ _ _ ?_)
    simp only [Bool.not_true, Bool.false_eq_true, if_false]
    refine wpAny_bind ?_
    refine wpAny_forIn_list _ (fun rest r s' => s' = s ∧ r = (none, ()) ∧ ∀ v ∈ rest, ∃ k', NestedIs s.heap k' v ∧ k'.depth ≤ 8) _ ?_ ?_ _ _ ⟨rfl, rfl, hst⟩
    · rintro x rest r s' ⟨rfl, rfl, hr⟩
      obtain ⟨k', hb, hd'⟩ := hr x List.mem_cons_self
      refine wpAny_bind (quietV hb hd' _ _ _ ?_)
      simp only [Bool.not_true, Bool.false_eq_true, if_false]
      exact wpAny_pure ⟨rfl, rfl, fun v hv => hr v (List.mem_cons_of_mem _ hv)⟩
    · rintro r s' ⟨rfl, rfl, _⟩
      exact wpAny_pure h
theorem eq_any {x y : NestedKey} {a b : Value} {Q : Bool → Shared → Prop} (hu : A.units + 8 < cLine) (hx : NestedIs s.heap x a) (hy : NestedIs s.heap y b) (dx : x.depth ≤ 8) (h : Q (decide (x = y)) s) : wpAny (model prog w) A (eqBool a b) Q E s :=
  eqAt_key x y A s _ _ hx hy (by have := Nat.min_le_left x.depth y.depth; omega) _ _ _ _ (by rw [← NestedKey.decide_eq]; exact h)

theorem find_any {d : Addr} {o : Obj} {es ep} {ks : List NestedKey} {nk : NestedKey} {key : Value} {Q : Option Nat → Shared → Prop} (hu : A.units + 8 < cLine) (hkey : NestedIs s.heap nk key) (hdk : nk.depth ≤ 8)
    (ho : s.heap.get? d = some o) (hd : o.data = .dict es ep) (K : KeysAt w s.heap ks es) (hnone : nk ∉ ks → Q none s) (hsome : ∀ j, ks[j]? = some nk → Q (some j) s) :
    wpAny (model prog w) A (dictFind d key (nk.hash w)) Q E s := by
  have hsz := K.len
  have haskey : ∀ (j : Nat), ks[j]? = some nk → ((es[j]?.map (·.hash)) == some (nk.hash w)) = true := by
    intro j hj
    have hlt : j < es.size := by rw [← hsz]; exact (List.getElem?_eq_some_iff.mp hj).1
    obtain ⟨k, e1, _, e3, _⟩ := K.at_ j es[j] (Array.getElem?_eq_getElem hlt)
    rw [hj] at e1
    cases e1
    rw [Array.getElem?_eq_getElem hlt, Option.map_some, e3]
    simp
  have notin : (∀ j, ks[j]? ≠ some nk) → nk ∉ ks := fun h hm => by
    obtain ⟨j, hj⟩ := List.mem_iff_getElem?.mp hm
    exact h j hj
  have hst : ∀ v ∈ (placesWithHash es.size (fun i => es[i]?.map (·.hash)) (nk.hash w)).filterMap (fun i => es[i]?.map (·.key)), ∃ k', NestedIs s.heap k' v ∧ k'.depth ≤ 8 := by
    intro v hv
    obtain ⟨i, _, hi⟩ := List.mem_filterMap.mp hv
    cases hei : es[i]? with
    | none => rw [hei] at hi; cases hi
    | some e =>
      rw [hei] at hi
      obtain rfl : e.key = v := by simpa using hi
      obtain ⟨k, _, e2, _, e4⟩ := K.at_ i e hei
      exact ⟨k, e2, e4⟩
  -- the plain walk
  have plain : wpAny (model prog w) A (dictWalkPlain d key (nk.hash w) es (placesWithHash es.size (fun i => es[i]?.map (·.hash)) (nk.hash w))) Q E s := by
    refine wpAny_bind ?_
    refine wpAny_forIn_list _
      (fun rest b s' => s' = s ∧ b = (none, ()) ∧ ∃ i, rest = (List.range' i (es.size - i)).filter (fun i => (es[i]?.map (·.hash)) == some (nk.hash w)) ∧ i ≤ es.size ∧
        ∀ j, j < i → ks[j]? ≠ some nk) _ ?_ ?_ _ _
      ⟨rfl, rfl, 0, by rw [placesWithHash, List.range_eq_range', Nat.sub_zero], Nat.zero_le _, fun _ h => absurd h (Nat.not_lt_zero _)⟩
    · rintro x rest b s' ⟨rfl, rfl, i, hr, hi, hno⟩
      obtain ⟨hix, hxn, hpx, hskip, hrest⟩ := filter_range'_cons _ _ _ _ _ hr.symm
      have hlt : x < es.size := by omega
      obtain ⟨k', e1, e2, e3, e4⟩ := K.at_ x es[x] (Array.getElem?_eq_getElem hlt)
      have hnext : ¬ k' = nk → ∃ i, rest = (List.range' i (es.size - i)).filter (fun i => (es[i]?.map (·.hash)) == some (nk.hash w)) ∧ i ≤ es.size ∧
          ∀ j, j < i → ks[j]? ≠ some nk := fun hne =>
        ⟨x + 1, by rw [hrest]; congr 2; omega, hlt, fun j hji hj => by
          rcases Nat.lt_or_ge j i with h | h
          · exact hno j h hj
          · rcases Nat.lt_or_ge j x with h' | h'
            · have := hskip j h h'
              rw [haskey j hj] at this
              cases this
            · have : j = x := by omega
              subst this
              rw [e1] at hj
              exact hne (Option.some.inj hj)⟩
      simp only [Array.getElem?_eq_getElem hlt]
      by_cases hh : (es[x].hash == nk.hash w) = true
      · rw [if_pos hh]
        refine wpAny_bind (wpAny_dictEpoch ho hd (wpAny_bind (eq_any hu e2 hkey e4 (wpAny_bind (wpAny_dictEpoch ho hd ?_)))))
        show wpAny _ _ (if (ep != ep) = true then _ else _) _ E _
        rw [if_neg (by simp)]
        by_cases hkk : k' = nk
        · rw [decide_eq_true hkk]
          subst hkk
          exact wpAny_bind (wpAny_rule (wpAny_pure (wpAny_pure (hsome x e1))))
        · rw [decide_eq_false hkk]
          exact wpAny_bind (wpAny_rule (wpAny_pure ⟨rfl, rfl, hnext hkk⟩))
      · rw [if_neg hh]
        refine wpAny_pure ⟨rfl, rfl, hnext ?_⟩
        intro hkk
        rw [e3, hkk] at hh; simp at hh
    · rintro b s' ⟨rfl, rfl, i, hr, hi, hno⟩
      refine wpAny_pure (hnone (notin fun j hj => ?_))
      rcases Nat.lt_or_ge j i with h | h
      · exact hno j h hj
      · have hjl : j < es.size := by rw [← hsz]; exact (List.getElem?_eq_some_iff.mp hj).1
        have := List.filter_eq_nil_iff.mp hr.symm j (List.mem_range'_1.mpr ⟨h, by omega⟩)
        rw [haskey j hj] at this
        exact this rfl
  have nostr : ∀ (x : Str) (t : Tok), key = .str x t → (es.all fun e => isExactStrKey e.key) = true → wpAny (model prog w) A (foundByValue d key es x) Q E s := by
    intro x t hk hall
    subst hk
    obtain rfl : nk = .text x := by cases hkey; rfl
    have isS : ∀ (v : Value) (k : NestedKey), NestedIs s.heap k v → v.isStr x = decide (k = .text x) := by
      intro v k hv
      cases hv with
      | text y u =>
        show (y == x) = _
        by_cases e : y = x
        · subst e; simp
        · have : ¬ NestedKey.text y = NestedKey.text x := fun z => e (NestedKey.text.inj z)
          rw [decide_eq_false this]
          simpa using e
      | _ => first | rfl | (rw [decide_eq_false (by intro z; cases z)]; rfl)
    unfold foundByValue
    cases hf : es.findIdx? (fun e => e.key.isStr x) with
    | none =>
      refine wpAny_pure (hnone (notin fun j hj => ?_))
      have hlt : j < es.size := by rw [← hsz]; exact (List.getElem?_eq_some_iff.mp hj).1
      obtain ⟨k', e1, e2, _⟩ := K.at_ j es[j] (Array.getElem?_eq_getElem hlt)
      rw [hj] at e1
      cases e1
      have := Array.findIdx?_eq_none_iff.mp hf es[j] (Array.getElem_mem hlt)
      rw [isS _ _ e2] at this
      simp at this
    | some i =>
      obtain ⟨hlt, hi, _⟩ := Array.findIdx?_eq_some_iff_getElem.mp hf
      obtain ⟨k', e1, e2, _, e4⟩ := K.at_ i es[i] (Array.getElem?_eq_getElem hlt)
      rw [isS _ _ e2] at hi
      have hkk : k' = .text x := of_decide_eq_true hi
      simp only [Array.getElem?_eq_getElem hlt]
      refine wpAny_bind (wpAny_dictEpoch ho hd (wpAny_bind (eq_any hu e2 hkey e4 (wpAny_bind (wpAny_dictEpoch ho hd ?_)))))
      show wpAny _ _ (if (ep != ep) = true then _ else _) _ E _
      rw [if_neg (by simp), decide_eq_true hkk]
      subst hkk
      exact wpAny_bind (wpAny_rule (wpAny_pure (hsome i e1)))
  have hany : ∀ a, key = .ref a → ¬ (es.any fun e => e.key == key && e.hash != nk.hash w) = true := by
    intro a hk
    rw [← Array.any_toList, List.any_eq_true]
    rintro ⟨e, hin, hc⟩
    obtain ⟨j, hj, rfl⟩ := Array.mem_iff_getElem.mp (Array.mem_toList_iff.mp hin)
    obtain ⟨k', e1, e2, e3, _⟩ := K.at_ j es[j] (Array.getElem?_eq_getElem hj)
    simp only [Bool.and_eq_true, beq_iff_eq, bne_iff_ne, ne_eq] at hc
    rw [hc.1] at e2
    exact hc.2 (by rw [e3, NestedIs.inj _ _ _ e2 hkey])
  -- the general walk
  have general : ∀ (stored : List Value) (tells : Bool), tells = false → wpAny (model prog w) A (do
      let mut hit : Option Nat := none
      for i in placesWithHash es.size (fun i => es[i]?.map (·.hash)) (nk.hash w) do
        if let some e := es[i]? then
          if e.hash == nk.hash w then
            let before ← dictEpoch d (keyPart key)
            let same ← eqBool e.key key
            if (← dictEpoch d (keyPart key)) != before then unsupported "dict.changed-during-lookup"
            if same then
              if hit.isSome then unsupported "dict.find:order-among-keys-of-one-hash"
              rule "dict.find.hit"
              if stored.length < 2 then return some i
              hit := some i
            else
              rule "dict.find.same-hash-other-key"
              if tells && !(0 ≤ nk.hash w && nk.hash w < 32) then unsupported "dict.find:asked-again-or-not-hangs-on-the-table"
      return hit) Q E s := by
    rintro stored tells rfl
    dsimp only
    refine wpAny_bind ?_
    refine wpAny_forIn_list _
      (fun rest b s' => s' = s ∧ ∃ i hit, b = (none, hit) ∧ rest = (List.range' i (es.size - i)).filter (fun i => (es[i]?.map (·.hash)) == some (nk.hash w)) ∧ i ≤ es.size ∧
        ((hit = none ∧ ∀ j, j < i → ks[j]? ≠ some nk) ∨ ∃ j, hit = some j ∧ j < i ∧ ks[j]? = some nk)) _ ?_ ?_ _ _
      ⟨rfl, 0, none, rfl, by rw [placesWithHash, List.range_eq_range', Nat.sub_zero], Nat.zero_le _, .inl ⟨rfl, fun _ h => absurd h (Nat.not_lt_zero _)⟩⟩
    · rintro x rest b s' ⟨rfl, i, hit, rfl, hr, hi, hH⟩
      obtain ⟨hix, hxn, hpx, hskip, hrest⟩ := filter_range'_cons _ _ _ _ _ hr.symm
      have hlt : x < es.size := by omega
      have hrest' : rest = (List.range' (x + 1) (es.size - (x + 1))).filter (fun i => (es[i]?.map (·.hash)) == some (nk.hash w)) := by rw [hrest]; congr 2; omega
      obtain ⟨k', e1, e2, e3, e4⟩ := K.at_ x es[x] (Array.getElem?_eq_getElem hlt)
      have hHx : (hit = none ∧ ∀ j, j < x → ks[j]? ≠ some nk) ∨ ∃ j, hit = some j ∧ j < x ∧ ks[j]? = some nk := by
        rcases hH with ⟨h0, hno⟩ | ⟨j, h1, hji, hj⟩
        · refine .inl ⟨h0, fun j hjx hj => ?_⟩
          rcases Nat.lt_or_ge j i with h | h
          · exact hno j h hj
          · have := hskip j h hjx
            rw [haskey j hj] at this
            exact absurd this (by decide)
        · exact .inr ⟨j, h1, by omega, hj⟩
      have hstay : ¬ k' = nk → ((hit = none ∧ ∀ j, j < x + 1 → ks[j]? ≠ some nk) ∨ ∃ j, hit = some j ∧ j < x + 1 ∧ ks[j]? = some nk) := by
        intro hne
        rcases hHx with ⟨h0, hno⟩ | ⟨j, h1, hjx, hj⟩
        · refine .inl ⟨h0, fun j hjx hj => ?_⟩
          rcases Nat.lt_or_ge j x with h | h
          · exact hno j h hj
          · have hjx' : j = x := by omega
            subst hjx'
            rw [e1] at hj
            exact hne (Option.some.inj hj)
        · exact .inr ⟨j, h1, by omega, hj⟩
      simp only [Array.getElem?_eq_getElem hlt]
      by_cases hh : (es[x].hash == nk.hash w) = true
      · rw [if_pos hh]
        refine wpAny_bind (wpAny_dictEpoch ho hd (wpAny_bind (eq_any hu e2 hkey e4 (wpAny_bind (wpAny_dictEpoch ho hd ?_)))))
        show wpAny _ _ (if (ep != ep) = true then _ else _) _ E _
        rw [if_neg (by simp)]
        by_cases hkk : k' = nk
        · rw [decide_eq_true hkk]
          subst hkk
          rcases hHx with ⟨rfl, _⟩ | ⟨j, _, hjx, hj⟩
          · first | rw [if_pos rfl] | skip
            simp only [Option.isSome_none, Bool.false_eq_true, if_false]
            first | refine wpAny_bind (wpAny_pure ?_) | skip
            refine wpAny_bind (wpAny_rule ?_)
            split
            · exact wpAny_pure (wpAny_pure (hsome x e1))
            · exact wpAny_pure ⟨rfl, x + 1, some x, rfl, hrest', hlt, .inr ⟨x, rfl, Nat.lt_succ_self x, e1⟩⟩
          · exact absurd (K.uniq hj e1) (by omega)
        · rw [decide_eq_false hkk]
          simp only [Bool.false_eq_true, if_false]
          refine wpAny_bind (wpAny_rule ?_)
          first | rw [if_neg (by simp)] | skip
          first
            | exact wpAny_pure ⟨rfl, x + 1, hit, rfl, hrest', hlt, hstay hkk⟩
            | exact wpAny_bind (wpAny_pure (wpAny_pure ⟨rfl, x + 1, hit, rfl, hrest', hlt, hstay hkk⟩))
      · rw [if_neg hh]
        refine wpAny_pure ⟨rfl, x + 1, hit, rfl, hrest', hlt, hstay ?_⟩
        intro hkk
        rw [e3, hkk] at hh; simp at hh
    · rintro b s' ⟨rfl, i, hit, rfl, hr, hi, hH⟩
      rcases hH with ⟨rfl, hno⟩ | ⟨j, rfl, _, hj⟩
      · refine wpAny_pure (hnone (notin fun j hj => ?_))
        rcases Nat.lt_or_ge j i with h | h
        · exact hno j h hj
        · have hjl : j < es.size := by rw [← hsz]; exact (List.getElem?_eq_some_iff.mp hj).1
          have := List.filter_eq_nil_iff.mp hr.symm j (List.mem_range'_1.mpr ⟨h, by omega⟩)
          rw [haskey j hj] at this
          exact this rfl
      · exact wpAny_pure (hsome j hj)
  have fin : wpAny (model prog w) A (do
    let tells ← if (placesWithHash es.size (fun i => es[i]?.map (·.hash)) (nk.hash w)).filterMap (fun i => es[i]?.map (·.key)) == [key] then pure false else tableMayTell key ((placesWithHash es.size (fun i => es[i]?.map (·.hash)) (nk.hash w)).filterMap fun i => es[i]?.map (·.key))
    if tells && ((placesWithHash es.size (fun i => es[i]?.map (·.hash)) (nk.hash w)).filterMap fun i => es[i]?.map (·.key)).length ≥ 2 then unsupported "dict.find:order-among-keys-of-one-hash"
    let mut hit : Option Nat := none
    for i in placesWithHash es.size (fun i => es[i]?.map (·.hash)) (nk.hash w) do
      if let some e := es[i]? then
        if e.hash == nk.hash w then
          let before ← dictEpoch d (keyPart key)
          let same ← eqBool e.key key
          if (← dictEpoch d (keyPart key)) != before then unsupported "dict.changed-during-lookup"
          if same then
            if hit.isSome then unsupported "dict.find:order-among-keys-of-one-hash"
            rule "dict.find.hit"
            if ((placesWithHash es.size (fun i => es[i]?.map (·.hash)) (nk.hash w)).filterMap fun i => es[i]?.map (·.key)).length < 2 then return some i
            hit := some i
          else
            rule "dict.find.same-hash-other-key"
            if tells && !(0 ≤ nk.hash w && nk.hash w < 32) then unsupported "dict.find:asked-again-or-not-hangs-on-the-table"
    return hit) Q E s := by
    by_cases hone : ((placesWithHash es.size (fun i => es[i]?.map (·.hash)) (nk.hash w)).filterMap (fun i => es[i]?.map (·.key)) == [key]) = true
    · rw [if_pos hone]
      refine wpAny_bind (wpAny_pure ?_)
      dsimp only
      rw [if_neg (by rw [Bool.false_and]; exact Bool.false_ne_true)]
      exact general _ _ rfl
    · rw [if_neg hone]
      refine wpAny_bind (tells_any hkey hdk hst ?_)
      dsimp only
      rw [if_neg (by rw [Bool.false_and]; exact Bool.false_ne_true)]
      exact general _ _ rfl
  clear general hsome hnone
  unfold dictFind
  try with_reducible refine wpAny_holding ?_
  refine wpAny_bind (wpAny_dictEntries ho hd ?_)
  cases hkey with
  | none =>
    dsimp only
    by_cases hall : ((Value.none :: (placesWithHash es.size (fun i => es[i]?.map (·.hash)) (NestedKey.none.hash w)).filterMap fun i => es[i]?.map (·.key)).all carriedByValue) = true
    · rw [if_pos hall]; exact plain
    · rw [if_neg hall]; exact fin
  | @bool b i e =>
    dsimp only
    by_cases hall : ((Value.bool b :: (placesWithHash es.size (fun i => es[i]?.map (·.hash)) ((NestedKey.num i).hash w)).filterMap fun i => es[i]?.map (·.key)).all carriedByValue) = true
    · rw [if_pos hall]; exact plain
    · rw [if_neg hall]; exact fin
  | int i t =>
    dsimp only
    by_cases hall : ((Value.int i t :: (placesWithHash es.size (fun i => es[i]?.map (·.hash)) ((NestedKey.num i).hash w)).filterMap fun i => es[i]?.map (·.key)).all carriedByValue) = true
    · rw [if_pos hall]; exact plain
    · rw [if_neg hall]; exact fin
  | text x t =>
    dsimp only
    by_cases hs : (es.all fun e => isExactStrKey e.key) = true
    · rw [if_pos hs]; exact nostr x t rfl hs
    · rw [if_neg hs]
      by_cases hall : ((Value.str x t :: (placesWithHash es.size (fun i => es[i]?.map (·.hash)) ((NestedKey.text x).hash w)).filterMap fun i => es[i]?.map (·.key)).all carriedByValue) = true
      · rw [if_pos hall]; exact plain
      · rw [if_neg hall]; exact fin
  | @tup a o' vs n' ks' h1 h2 h3 h4 =>
    dsimp only
    rw [if_neg (show ¬ ((Value.ref a :: (placesWithHash es.size (fun i => es[i]?.map (·.hash)) ((NestedKey.tup ks').hash w)).filterMap (fun i => es[i]?.map (·.key))).all carriedByValue) = true by simp [carriedByValue])]
    rw [if_neg (hany a rfl)]
    exact fin
end
end DL
set_option Elab.async false
set_option linter.all false
set_option maxRecDepth 100000
set_option maxHeartbeats 4000000
namespace DL
open PySem PySem.Spec PyProof.Rows L2

section
variable (K : PySem.W.Frag) (H : Hp)
mutual
/-- the value v is the key k -/
inductive NV : NestedKey → V → Prop
  | non : NV .none .non
  | bl (b : Bool) : NV (.num (if b = true then 1 else 0)) (.bl b)
  | int (i : Int) : NV (.num i) (.int i)
  | text (x : Str) : NV (.text x) (.str x)
  | tup {a : Addr} {vs : List V} {ks : List NestedKey} : SqT K H a vs → NVs ks vs → NV (.tup ks) (.ref a)
inductive NVs : List NestedKey → List V → Prop
  | nil : NVs [] []
  | cons {k : NestedKey} {v : V} {ks : List NestedKey} {vs : List V} : NV k v → NVs ks vs → NVs (k :: ks) (v :: vs)
end
inductive KeysV (w : World) : List NestedKey → List Ent → Prop
  | nil : KeysV w [] []
  | cons {k : NestedKey} {u v : V} {ks : List NestedKey} {es : List Ent} : NV K H k u → k.depth ≤ 8 → KeysV w ks es → KeysV w (k :: ks) ((k.hash w, u, v) :: es)
end
section
variable {K : PySem.W.Frag} {w : World} {ρ ρ' : List Addr} {H H' : Hp} {hp hp' : Ht}
mutual
theorem nv_of : ∀ (d : D) (v : V) (k : NestedKey), R K ρ H d v → toKey d = some k → NV K H k v
  | .non, _, _, r, e => by cases r; simp only [toKey, Option.some.injEq] at e; subst e; exact .non
  | .bl b, _, _, r, e => by cases r; simp only [toKey, Option.some.injEq] at e; subst e; exact .bl b
  | .int b, _, _, r, e => by cases r; simp only [toKey, Option.some.injEq] at e; subst e; exact .int b
  | .str b, _, _, r, e => by cases r; simp only [toKey, Option.some.injEq] at e; subst e; exact .text b
  | .byt b, _, _, r, e => by simp [toKey] at e
  | .ty b, _, _, r, e => by simp [toKey] at e
  | .ref n, _, _, r, e => by simp [toKey] at e
  | .tup ds, _, _, r, e => by
    cases r with
    | tup s r =>
      simp only [toKey, Option.map_eq_some_iff] at e
      obtain ⟨ks, e1, rfl⟩ := e
      exact .tup s (nvs_of ds _ ks r e1)
theorem nvs_of : ∀ (d : List D) (v : List V) (k : List NestedKey), Rs K ρ H d v → toKeys d = some k → NVs K H k v
  | [], _, _, r, e => by cases r; simp only [toKeys, Option.some.injEq] at e; subst e; exact .nil
  | d :: ds, _, _, r, e => by
    cases r with
    | cons a b =>
      simp only [toKeys] at e
      split at e
      · rename_i p ps e1 e2
        cases e
        exact .cons (nv_of d _ p a e1) (nvs_of ds _ ps b e2)
      · cases e
end
theorem keysV_of {kvs : List (D × D)} {es : List Ent} (h : KVs K w ρ H kvs es) : ∃ ks, KeysV K H w ks es ∧ kvs.map (fun p => toKey p.1) = ks.map some := by
  induction h with
  | nil => exact ⟨[], .nil, rfl⟩
  | @cons k d nk u v kvs es e1 e2 r1 r2 _ ih =>
    obtain ⟨ks, h1, h2⟩ := ih
    exact ⟨nk :: ks, .cons (nv_of k u nk r1 e1) e2 h1, by simp [e1, h2]⟩
theorem nodup_some {ks : List NestedKey} (h : (ks.map some).Nodup) : ks.Nodup := by
  induction ks with
  | nil => exact List.nodup_nil
  | cons k ks ih =>
    rw [List.map_cons, List.nodup_cons] at h
    rw [List.nodup_cons]
    exact ⟨fun m => h.1 (List.mem_map.mpr ⟨k, m, rfl⟩), ih h.2⟩
end
section
variable {X : Cx} {pins : List (Addr × Obj)} {σ : L2.St} {H : Hp} {s : Shared}
mutual
theorem nest_of (I : Inv X pins σ H s) : ∀ (k : NestedKey) (v : V) (u : Value), NV X.K H k v → RelV v u → NestedIs s.heap k u
  | .none, _, _, h, r => by cases h; cases r; exact .none
  | .num i, _, _, h, r => by
    cases h with
    | bl b => cases r; exact .bool rfl
    | int i => obtain ⟨t, rfl⟩ := r; exact .int i t
  | .text x, _, _, h, r => by
    cases h
    obtain ⟨t, rfl⟩ := r
    exact .text x t
  | .tup ks, _, _, h, r => by
    cases h with
    | tup s' hs =>
      cases r
      obtain ⟨its, rv, ⟨o, h1, h2, n, h3⟩, _⟩ := I.tuple s'
      exact .tup h1 h2 h3 (by simpa using nests_of I ks _ its hs rv)
theorem nests_of (I : Inv X pins σ H s) : ∀ (k : List NestedKey) (v : List V) (u : List Value), NVs X.K H k v → Vals v u → NestedAll s.heap k u
  | [], _, _, h, r => by cases h; cases r; exact .nil
  | k :: ks, _, _, h, r => by
    cases h with
    | cons h1 h2 =>
      cases r with
      | cons r1 r2 => exact .cons (nest_of I k _ _ h1 r1) (nests_of I ks _ _ h2 r2)
end
theorem paired_get {α β : Type} {F : α → β → Prop} : ∀ {xs : List α} {ys : List β}, Paired F xs ys → ∀ (j : Nat) (y : β), ys[j]? = some y → ∃ x, xs[j]? = some x ∧ F x y
  | _, _, .nil, _, _, e => by simp at e
  | _, _, .cons h t, 0, y, e => by simp at e; subst e; exact ⟨_, rfl, h⟩
  | _, _, .cons h t, j + 1, y, e => by
    obtain ⟨x, h1, h2⟩ := paired_get t j y (by simpa using e)
    exact ⟨x, by simpa using h1, h2⟩
theorem keysV_get {K : PySem.W.Frag} {w : World} {ks : List NestedKey} {es : List Ent} (h : KeysV K H w ks es) : ∀ (j : Nat) (e : Ent), es[j]? = some e → ∃ k, ks[j]? = some k ∧ NV K H k e.2.1 ∧ e.1 = k.hash w ∧ k.depth ≤ 8 := by
  induction h with
  | nil => intro j e h; simp at h
  | @cons k u v ks es h1 h2 _ ih =>
    intro j e h
    cases j with
    | zero => simp at h; subst h; exact ⟨k, rfl, h1, rfl, h2⟩
    | succ j =>
      obtain ⟨k', e1, e2⟩ := ih j e (by simpa using h)
      exact ⟨k', by simpa using e1, e2⟩
theorem keysV_len {K : PySem.W.Frag} {w : World} {ks : List NestedKey} {es : List Ent} (h : KeysV K H w ks es) : ks.length = es.length := by
  induction h with
  | nil => rfl
  | cons _ _ _ ih => simp [ih]
/-- the dict at a in the machine's heap -/
structure DX (X : Cx) (s : Shared) (a : Addr) (es : List Ent) (ks : List NestedKey) (o : Obj) (xs : Array DictEntry) (ep : Nat) : Prop where
  low : (a == sysModules) = false
  sz : es.length ≤ sizeLine
  get : s.heap.get? a = some o
  ex : o.ExactDict
  dat : o.data = .dict xs ep
  ents : Paired EntOk es xs.toList
  keys : KeysAt X.w s.heap ks xs
theorem dx_of {a : Addr} {es : List Ent} {ks : List NestedKey} (I : Inv X pins σ H s) (e : H a = some (.ext (DctP a es))) (k : KeysV X.K H X.w ks es) (nd : ks.Nodup) : ∃ o xs ep, DX X s a es ks o xs ep := by
  obtain ⟨⟨h1, h2, o, xs, ep, h3, h4, h5, h6⟩, _⟩ := (show ObjOk X.prog X.w H s.heap a (.ext (DctP a es)) from I.hok a _ e)
  refine ⟨o, xs, ep, h1, h2, h3, h4, h5, h6, ⟨?_, nd, fun j y hy => ?_⟩⟩
  · have := Paired.length h6
    rw [keysV_len k, this, Array.length_toList]
  · obtain ⟨x, ex, h7, h8, h9⟩ := paired_get h6 j y (by simpa using hy)
    obtain ⟨k', e1, e2, e3, e4⟩ := keysV_get k j x ex
    exact ⟨k', e1, nest_of I k' _ _ e2 h8, by rw [← h7, e3], e4⟩
theorem DX.typeIs {a : Addr} {es : List Ent} {ks : List NestedKey} {o : Obj} {xs : Array DictEntry} {ep : Nat} (d : DX X s a es ks o xs ep) : s.TypeIs (.ref a) "dict" := ⟨o, d.get, d.ex.1⟩
theorem DX.tok {a : Addr} {es : List Ent} {ks : List NestedKey} {o : Obj} {xs : Array DictEntry} {ep : Nat} (d : DX X s a es ks o xs ep) (t : Nat) : DX X { s with toks := t } a es ks o xs ep := ⟨d.low, d.sz, d.get, d.ex, d.dat, d.ents, d.keys⟩
section
variable {a : Addr} {es : List Ent} {ks : List NestedKey} {o : Obj} {xs : Array DictEntry} {ep : Nat} {A : Around} {E : Value → Shared → Prop} {nk : NestedKey} {key : Value}
theorem get_any {Q : Option Value → Shared → Prop} (d : DX X s a es ks o xs ep) (hu : A.units + 9 < cLine) (hk : NestedIs s.heap nk key) (hd : nk.depth ≤ 8)
    (h0 : nk ∉ ks → Q none { s with toks := s.toks + nk.draws }) (h1 : ∀ (j : Nat) (e : DictEntry), ks[j]? = some nk → xs[j]? = some e → Q (some e.val) { s with toks := s.toks + nk.draws }) :
    wpAny (model X.prog X.w) A (dictGet a key) Q E s := by
  unfold dictGet
  try with_reducible refine wpAny_holding ?_
  refine wpAny_bind (pyHash_key nk key A s _ hk (by omega) ?_)
  refine wpAny_bind (find_any (s := { s with toks := s.toks + nk.draws }) (by omega) hk hd d.get d.dat (d.tok _).keys (fun hn => wpAny_pure (h0 hn)) fun j hj => ?_)
  have hlt : j < xs.size := by rw [← d.keys.len]; exact (List.getElem?_eq_some_iff.mp hj).1
  refine wpAny_bind (wpAny_dictEntries (s := { s with toks := s.toks + nk.draws }) d.get d.dat ?_)
  rw [Array.getElem?_eq_getElem hlt]
  exact wpAny_pure (h1 j _ hj (Array.getElem?_eq_getElem hlt))
theorem in_any {Q : Value → Shared → Prop} (d : DX X s a es ks o xs ep) (hu : A.units + 10 < cLine) (hk : NestedIs s.heap nk key) (hd : nk.depth ≤ 8)
    (h : Q (.bool (decide (nk ∈ ks))) { s with toks := s.toks + nk.draws }) : wpAny (model X.prog X.w) A (compareOp .In key (.ref a)) Q E s := by
  show wpAny _ _ (do return .bool (← contains (.ref a) key)) Q E s
  refine wpAny_bind ?_
  unfold contains
  try with_reducible refine wpAny_holding ?_
  refine wpAny_bind (wpAny_specialOf d.typeIs slot_dict_contains.lookup ?_)
  show wpAny _ _ (if (some (Value.builtin "dict.__contains__") == some Value.none) = true then _ else _) _ E s
  rw [if_neg (by rw [beq_builtin_none]; exact Bool.false_ne_true)]
  refine wpAny_bind (wpAny_callSpecialUnlessNone?_slot (name := Str.ofString "__contains__") d.typeIs slot_dict_contains
    (wpAny_call_entry slot_dict_contains d.typeIs entry_dict_contains ?_ (args_dict_contains _ _)))
  show wpAny _ _ (dictGet a key >>= _) _ _ s
  refine wpAny_bind (get_any d (by show A.units + 1 + 9 < cLine; omega) hk hd (fun hn => ?_) fun j e hj _ => ?_)
  · rw [decide_eq_false hn] at h
    show wpAny _ _ (Builtin.Dict.pendingKey? a key >>= _) _ _ _
    exact wpAny_bind (wpAny_pendingKey_other d.low (wpAny_pure ⟨_, rfl, wpAny_truthy_bool (wpAny_pure h)⟩))
  · rw [decide_eq_true (List.mem_of_getElem? hj)] at h
    show wpAny _ _ (ret (.bool true)) _ _ _
    exact wpAny_pure ⟨_, rfl, wpAny_truthy_bool (wpAny_pure h)⟩
theorem notin_any {Q : Value → Shared → Prop} (d : DX X s a es ks o xs ep) (hu : A.units + 10 < cLine) (hk : NestedIs s.heap nk key) (hd : nk.depth ≤ 8)
    (h : Q (.bool (!decide (nk ∈ ks))) { s with toks := s.toks + nk.draws }) : wpAny (model X.prog X.w) A (compareOp .NotIn key (.ref a)) Q E s := by
  show wpAny _ _ (do return .bool (!(← contains (.ref a) key))) Q E s
  refine wpAny_bind ?_
  unfold contains
  try with_reducible refine wpAny_holding ?_
  refine wpAny_bind (wpAny_specialOf d.typeIs slot_dict_contains.lookup ?_)
  show wpAny _ _ (if (some (Value.builtin "dict.__contains__") == some Value.none) = true then _ else _) _ E s
  rw [if_neg (by rw [beq_builtin_none]; exact Bool.false_ne_true)]
  refine wpAny_bind (wpAny_callSpecialUnlessNone?_slot (name := Str.ofString "__contains__") d.typeIs slot_dict_contains
    (wpAny_call_entry slot_dict_contains d.typeIs entry_dict_contains ?_ (args_dict_contains _ _)))
  show wpAny _ _ (dictGet a key >>= _) _ _ s
  refine wpAny_bind (get_any d (by show A.units + 1 + 9 < cLine; omega) hk hd (fun hn => ?_) fun j e hj _ => ?_)
  · rw [decide_eq_false hn] at h
    show wpAny _ _ (Builtin.Dict.pendingKey? a key >>= _) _ _ _
    exact wpAny_bind (wpAny_pendingKey_other d.low (wpAny_pure ⟨_, rfl, wpAny_truthy_bool (wpAny_pure h)⟩))
  · rw [decide_eq_true (List.mem_of_getElem? hj)] at h
    show wpAny _ _ (ret (.bool true)) _ _ _
    exact wpAny_pure ⟨_, rfl, wpAny_truthy_bool (wpAny_pure h)⟩
theorem getItem_any {Q : Value → Shared → Prop} (d : DX X s a es ks o xs ep) (hu : A.units + 10 < cLine) (hk : NestedIs s.heap nk key) (hd : nk.depth ≤ 8) (hm : nk ∈ ks)
    (h : ∀ (j : Nat) (e : DictEntry), ks[j]? = some nk → xs[j]? = some e → Q e.val { s with toks := s.toks + nk.draws }) : wpAny (model X.prog X.w) A (getItem (.ref a) key) Q E s := by
  unfold getItem
  try with_reducible refine wpAny_holding ?_
  refine wpAny_bind (wpAny_sequenceKey d.typeIs (by decide) ?_)
  refine wpAny_bind (wpAny_callSpecial?_slot (name := Str.ofString "__getitem__") d.typeIs slot_dict_getitem
    (wpAny_call_entry slot_dict_getitem d.typeIs entry_dict_getitem ?_ (args_dict_getitem _ _)))
  show wpAny _ _ (dictGet a key >>= _) _ _ s
  refine wpAny_bind (get_any d (by show A.units + 1 + 9 < cLine; omega) hk hd (fun hn => absurd hm hn) fun j e hj he => ?_)
  exact wpAny_pure ⟨e.val, rfl, wpAny_pure (h j e hj he)⟩
theorem setItem_any {v : Value} {Q : Unit → Shared → Prop} (d : DX X s a es ks o xs ep) (hu : A.units + 10 < cLine) (hk : NestedIs s.heap nk key) (hd : nk.depth ≤ 8)
    (h0 : nk ∉ ks → ∀ h' o', Heap.SameBut a s.heap h' → h'.get? a = some o' → o'.ExactDict → o'.data = .dict (xs.push ⟨nk.hash X.w, key, v⟩) (ep + 1) → Q () { s with heap := h', toks := s.toks + nk.draws })
    (h1 : ∀ (j : Nat), ks[j]? = some nk → ∀ h' o', Heap.SameBut a s.heap h' → h'.get? a = some o' → o'.ExactDict → o'.data = .dict (xs.modify j fun e => { e with val := v }) ep → Q () { s with heap := h', toks := s.toks + nk.draws }) :
    wpAny (model X.prog X.w) A (setItem (.ref a) key v) Q E s := by
  unfold setItem
  try with_reducible refine wpAny_holding ?_
  refine wpAny_bind (wpAny_sequenceKey d.typeIs (by decide) ?_)
  refine wpAny_bind (wpAny_callSpecial?_slot (name := Str.ofString "__setitem__") d.typeIs slot_dict_setitem
    (wpAny_call_entry slot_dict_setitem d.typeIs entry_dict_setitem ?_ (args_dict_setitem _ _ _)))
  show wpAny _ _ (Builtin.Dict.notOrdered "__setitem__" ⟨[.ref a, key, v], []⟩ >>= _) _ _ s
  refine wpAny_bind (wpAny_notOrdered_dict d.typeIs ?_)
  show wpAny _ _ (dictSet a key v >>= _) _ _ s
  refine wpAny_bind ?_
  unfold dictSet
  try with_reducible refine wpAny_holding ?_
  refine wpAny_bind (pyHash_key nk key _ s _ hk (by show A.units + 1 + _ < cLine; omega) ?_)
  unfold dictSetHashed
  try with_reducible refine wpAny_holding ?_
  have hsz : xs.size ≤ sizeLine := by
    have := Paired.length d.ents
    have h2 := d.sz
    rw [this, Array.length_toList] at h2
    exact h2
  refine wpAny_bind (find_any (s := { s with toks := s.toks + nk.draws }) (by show A.units + 1 + 8 < cLine; omega) hk hd d.get d.dat (d.tok _).keys (fun hn => ?_) fun j hj => ?_)
  · exact wpAny_bind (wpAny_rule (wpAny_updateDictKeys (hz := hsz) (s := { s with toks := s.toks + nk.draws }) d.get d.dat (wpAny_pure ⟨.none, rfl, wpAny_pure (h0 hn _ _ (Heap.SameBut.update ..)
      (Heap.get?_update_self _ d.get (Obj.isFreed_of_dict (Obj.data_mapDictKeys d.dat _))) (d.ex.mapDictKeys _) (Obj.data_mapDictKeys d.dat _))⟩)))
  · exact wpAny_bind (wpAny_rule (wpAny_bind (wpAny_updateDict (s := { s with toks := s.toks + nk.draws }) d.get d.dat (wpAny_point (wpAny_pure ⟨.none, rfl, wpAny_pure (h1 j hj _ _ (Heap.SameBut.update ..)
      (Heap.get?_update_self _ d.get (Obj.isFreed_of_dict (Obj.data_mapDict d.dat _))) (d.ex.mapDict _) (Obj.data_mapDict d.dat _))⟩)))))
end
end
end DL
set_option Elab.async false
set_option linter.all false
set_option maxRecDepth 100000
set_option maxHeartbeats 4000000
namespace DL
open PySem PySem.Spec PyProof.Rows L2

/-! ### dicts of data -/
def dGet (nk : NestedKey) : List (D × D) → Option D
  | [] => none
  | p :: r => if toKey p.1 = some nk then some p.2 else dGet nk r
def dPut (nk : NestedKey) (k v : D) : List (D × D) → List (D × D)
  | [] => [(k, v)]
  | p :: r => if toKey p.1 = some nk then (p.1, v) :: r else p :: dPut nk k v r
def keyOf (d : D) : Option NestedKey := match toKey d with
  | some nk => if nk.depth ≤ 8 then some nk else none
  | none => none
theorem keyOf_some {d : D} {nk : NestedKey} (h : keyOf d = some nk) : toKey d = some nk ∧ nk.depth ≤ 8 := by
  unfold keyOf at h
  split at h
  · rename_i nk' e
    split at h
    · cases h; exact ⟨e, by assumption⟩
    · cases h
  · cases h
def dctOf (hp : Ht) (n : Nat) : Option (List (D × D)) := match hp[n]? with
  | some (.dct kvs) => some kvs
  | _ => none
theorem dctOf_some {hp : Ht} {n : Nat} {kvs : List (D × D)} (h : dctOf hp n = some kvs) : hp[n]? = some (.dct kvs) := by
  unfold dctOf at h
  split at h
  · cases h; assumption
  · cases h

section
variable {K : PySem.W.Frag} {w : World} {ρ ρ' : List Addr} {H H' : Hp} {hp hp' : Ht}
theorem dget_none {nk : NestedKey} : ∀ {kvs : List (D × D)}, dGet nk kvs = none ↔ some nk ∉ kvs.map fun p => toKey p.1
  | [] => by simp [dGet]
  | p :: r => by
    unfold dGet
    have ih := dget_none (nk := nk) (kvs := r)
    by_cases c : toKey p.1 = some nk
    · rw [if_pos c]; simp [c]
    · rw [if_neg c, ih, List.map_cons, List.mem_cons]
      constructor
      · rintro h (e | e)
        · exact c e.symm
        · exact h e
      · exact fun h e => h (.inr e)
theorem dget_at {nk : NestedKey} : ∀ {kvs : List (D × D)} {v : D}, dGet nk kvs = some v → ∃ (j : Nat) (p : D × D), kvs[j]? = some p ∧ toKey p.1 = some nk ∧ p.2 = v
  | [], _, h => by simp [dGet] at h
  | p :: r, v, h => by
    unfold dGet at h
    split at h
    · rename_i c
      cases h
      exact ⟨0, p, rfl, c, rfl⟩
    · obtain ⟨j, q, e1, e2, e3⟩ := dget_at h
      exact ⟨j + 1, q, by simpa using e1, e2, e3⟩
theorem dput_keys {nk : NestedKey} {k v : D} (hk : toKey k = some nk) : ∀ (kvs : List (D × D)), (dPut nk k v kvs).map (fun p => toKey p.1) = if some nk ∈ kvs.map (fun p => toKey p.1) then kvs.map (fun p => toKey p.1) else kvs.map (fun p => toKey p.1) ++ [some nk]
  | [] => by simp [dPut, hk]
  | p :: r => by
    unfold dPut
    have ih := dput_keys (v := v) hk r
    by_cases c : toKey p.1 = some nk
    · rw [if_pos c, List.map_cons, List.map_cons, if_pos (by rw [c]; exact List.mem_cons_self)]
    · rw [if_neg c, List.map_cons, List.map_cons, ih]
      have hc : ¬ some nk = toKey p.1 := fun e => c e.symm
      by_cases d : some nk ∈ r.map (fun p => toKey p.1)
      · rw [if_pos d, if_pos (List.mem_cons_of_mem _ d)]
      · rw [if_neg d, if_neg (by
          rw [List.mem_cons]
          rintro (e | e)
          · exact hc e
          · exact d e)]
        rfl
theorem dput_nodup {nk : NestedKey} {k v : D} (hk : toKey k = some nk) {kvs : List (D × D)} (h : (kvs.map fun p => toKey p.1).Nodup) : ((dPut nk k v kvs).map fun p => toKey p.1).Nodup := by
  rw [dput_keys hk]
  split
  · exact h
  · rename_i c
    rw [List.nodup_append]
    refine ⟨h, by simp, fun a ha b hb e => ?_⟩
    simp at hb
    subst hb
    exact c (e ▸ ha)
theorem dput_len {nk : NestedKey} {k v : D} : ∀ {kvs : List (D × D)}, (dPut nk k v kvs).length ≤ kvs.length + 1
  | [] => by simp [dPut]
  | p :: r => by
    unfold dPut
    split
    · simp
    · have := dput_len (nk := nk) (k := k) (v := v) (kvs := r)
      simp only [List.length_cons]; omega
/-- a new key -/
theorem kvs_put0 {nk : NestedKey} {k d : D} {u v : V} (hk : toKey k = some nk) (hd : nk.depth ≤ 8) (rk : R K ρ H k u) (rv : R K ρ H d v) : ∀ {kvs : List (D × D)} {es : List Ent}, KVs K w ρ H kvs es → some nk ∉ kvs.map (fun p => toKey p.1) →
    KVs K w ρ H (dPut nk k d kvs) (es ++ [(nk.hash w, u, v)])
  | _, _, .nil, _ => .cons hk hd rk rv .nil
  | (k', d') :: kvs, _, .cons e1 e2 r1 r2 t, h => by
    unfold dPut
    rw [if_neg (by intro c; exact h (by rw [List.map_cons]; exact List.mem_cons.mpr (.inl c.symm)))]
    exact .cons e1 e2 r1 r2 (kvs_put0 hk hd rk rv t fun m => h (by rw [List.map_cons]; exact List.mem_cons_of_mem _ m))
/-- a key that is there -/
theorem kvs_put1 {nk : NestedKey} {k d : D} {v : V} (rv : R K ρ H d v) : ∀ {kvs : List (D × D)} {es : List Ent} {j : Nat}, KVs K w ρ H kvs es → (kvs.map fun p => toKey p.1).Nodup → (kvs.map fun p => toKey p.1)[j]? = some (some nk) →
    KVs K w ρ H (dPut nk k d kvs) (es.modify j fun e => (e.1, e.2.1, v))
  | [], _, j, _, _, h => by simp at h
  | (k', d') :: kvs, _, 0, .cons e1 e2 r1 r2 t, _, h => by
    unfold dPut
    rw [if_pos (by simpa using h)]
    exact .cons e1 e2 r1 rv t
  | (k', d') :: kvs, _, j + 1, .cons e1 e2 r1 r2 t, nd, h => by
    unfold dPut
    rw [List.map_cons, List.nodup_cons] at nd
    have h2 : (kvs.map fun p => toKey p.1)[j]? = some (some nk) := by simpa using h
    rw [if_neg (by intro c; exact nd.1 (by rw [c]; exact List.mem_of_getElem? h2))]
    exact .cons e1 e2 r1 r2 (kvs_put1 rv t nd.2 h2)
theorem ents_push {es : List Ent} {xs : Array DictEntry} {h : Int} {u v : V} {a b : Value} (p : Paired EntOk es xs.toList) (ra : RelV u a) (rb : RelV v b) : Paired EntOk (es ++ [(h, u, v)]) (xs.push ⟨h, a, b⟩).toList := by
  rw [Array.toList_push]
  generalize xs.toList = l at p
  induction p with
  | nil => exact .cons ⟨rfl, ra, rb⟩ .nil
  | cons q _ ih => exact .cons q ih
theorem ents_mod' {v : V} {b : Value} (rb : RelV v b) : ∀ {es : List Ent} {l : List DictEntry} (j : Nat), Paired EntOk es l → Paired EntOk (es.modify j fun e => (e.1, e.2.1, v)) (l.modify j fun e => { e with val := b })
  | _, _, j, .nil => by cases j <;> exact .nil
  | _, _, 0, .cons q t => .cons ⟨q.1, q.2.1, rb⟩ t
  | _, _, j + 1, .cons q t => .cons q (ents_mod' rb j t)
theorem ents_mod {es : List Ent} {xs : Array DictEntry} {v : V} {b : Value} (rb : RelV v b) (j : Nat) (p : Paired EntOk es xs.toList) : Paired EntOk (es.modify j fun e => (e.1, e.2.1, v)) (xs.modify j fun e => { e with val := b }).toList := by
  rw [Array.toList_modify]
  exact ents_mod' rb j p
end

/-! ### a dict object in the heap of data -/
section
variable {X : Cx} {pins : List (Addr × Obj)} {σ : L2.St} {H : Hp} {s : Shared} {hp : Ht} {ρ : List Addr}
/-- the dict at n: the machine's object -/
theorem dct_at (I : Inv X pins σ H s) (h : HR X.K X.w ρ H hp) {n : Nat} {a : Addr} {kvs : List (D × D)} (e : ρ[n]? = some a) (ex : hp[n]? = some (.dct kvs)) :
    ∃ es ks o xs ep, H a = some (.ext (DctP a es)) ∧ KVs X.K X.w ρ H kvs es ∧ (kvs.map fun p => toKey p.1).Nodup ∧ kvs.map (fun p => toKey p.1) = ks.map some ∧ DX X s a es ks o xs ep := by
  obtain ⟨es, e1, r, nd⟩ := h.obj n a _ e ex
  obtain ⟨ks, h1, h2⟩ := keysV_of r
  obtain ⟨o, xs, ep, d⟩ := dx_of I e1 h1 (nodup_some (by rw [← h2]; exact nd))
  exact ⟨es, ks, o, xs, ep, e1, r, nd, h2, d⟩
theorem key_mem {kvs : List (D × D)} {ks : List NestedKey} {nk : NestedKey} (h : kvs.map (fun p => toKey p.1) = ks.map some) : (nk ∈ ks) = (some nk ∈ kvs.map fun p => toKey p.1) := by
  rw [h]
  apply propext
  constructor
  · exact fun m => List.mem_map.mpr ⟨nk, m, rfl⟩
  · intro m
    obtain ⟨x, hx, e⟩ := List.mem_map.mp m
    cases e; exact hx
theorem dget_isSome {nk : NestedKey} {kvs : List (D × D)} : (dGet nk kvs).isSome = decide (some nk ∈ kvs.map fun p => toKey p.1) := by
  cases e : dGet nk kvs with
  | none => rw [decide_eq_false (dget_none.mp e)]; rfl
  | some v =>
    rw [decide_eq_true]
    · rfl
    · exact Classical.byContradiction fun c => by rw [dget_none.mpr c] at e; cases e
/-- the value at a key -/
theorem kvs_val {K : PySem.W.Frag} {w : World} {kvs : List (D × D)} {es : List Ent} {xs : List DictEntry} {nk : NestedKey} {d : D} {j : Nat} (h : KVs K w ρ H kvs es) (p : Paired EntOk es xs) (nd : (kvs.map fun p => toKey p.1).Nodup) (e : dGet nk kvs = some d) (ej : (kvs.map fun p => toKey p.1)[j]? = some (some nk)) {x : DictEntry} (ex : xs[j]? = some x) :
    ∃ v, R K ρ H d v ∧ RelV v x.val := by
  induction h generalizing xs j with
  | nil => simp [dGet] at e
  | @cons k d' nk' u v kvs es e1 e2 r1 r2 t ih =>
    cases p with
    | cons q p =>
      rw [List.map_cons, List.nodup_cons] at nd
      unfold dGet at e
      cases j with
      | zero =>
        simp only [List.map_cons, List.getElem?_cons_zero, Option.some.injEq] at ej
        rw [if_pos ej] at e
        cases e
        simp only [List.getElem?_cons_zero, Option.some.injEq] at ex
        subst ex
        exact ⟨v, r2, q.2.2⟩
      | succ j =>
        simp only [List.map_cons, List.getElem?_cons_succ] at ej
        simp only [List.getElem?_cons_succ] at ex
        rw [if_neg (by intro c; exact nd.1 (by rw [c]; exact List.mem_of_getElem? ej))] at e
        exact ih p nd.2 e ej ex
end

/-! ### in, not in -/
def gIn (neg : Bool) : Op2 := fun x y hp => match y with
  | .tup ys => match inB x ys hp with
    | some b => .ok (.bl (if neg then !b else b)) hp
    | none => .fail
  | .ref n => match lsOf hp n with
    | some ys => match inB x ys hp with
      | some b => .ok (.bl (if neg then !b else b)) hp
      | none => .fail
    | none => match dctOf hp n, keyOf x with
      | some kvs, some nk => .ok (.bl (if neg then !(dGet nk kvs).isSome else (dGet nk kvs).isSome)) hp
      | _, _ => .fail
  | _ => .fail
/-- look-up in a dict object -/
def rInD (X : Cx) (neg : Bool) : R2 := fun x y H Q => ∃ (ρ : List Addr) (hp : Ht) (n : Nat) (a : Addr) (d : D) (kvs : List (D × D)) (nk : NestedKey), HR X.K X.w ρ H hp ∧ ρ[n]? = some a ∧ hp[n]? = some (.dct kvs) ∧ y = .ref a ∧ R X.K ρ H d x ∧ keyOf d = some nk ∧ Q (.bl (if neg then !(dGet nk kvs).isSome else (dGet nk kvs).isSome)) H
section
variable {X : Cx}
theorem o_inD (hu : X.A.units + 10 < cLine) : OpR X (compareOp .In) (rInD X false) := by
  intro pins s σ H x y v u Q I rx ry h
  obtain ⟨ρ, hp, n, a, d, kvs, nk, hh, e1, e2, rfl, rd, ek, q⟩ := h
  obtain ⟨k1, k2⟩ := keyOf_some ek
  cases ry
  obtain ⟨es, ks, o, xs, ep, e3, r, nd, hk, dx⟩ := dct_at I hh e1 e2
  refine in_any dx hu (nest_of I nk x _ (nv_of d x nk rd k1) rx) k2 ?_
  refine ⟨.bl _, H, I.tok _, rfl, ?_⟩
  simp only [Bool.false_eq_true, if_false] at q
  rw [dget_isSome] at q
  have e : decide (nk ∈ ks) = decide (some nk ∈ kvs.map fun p => toKey p.1) := by simp only [key_mem hk]
  rw [e]
  exact q
theorem o_notinD (hu : X.A.units + 10 < cLine) : OpR X (compareOp .NotIn) (rInD X true) := by
  intro pins s σ H x y v u Q I rx ry h
  obtain ⟨ρ, hp, n, a, d, kvs, nk, hh, e1, e2, rfl, rd, ek, q⟩ := h
  obtain ⟨k1, k2⟩ := keyOf_some ek
  cases ry
  obtain ⟨es, ks, o, xs, ep, e3, r, nd, hk, dx⟩ := dct_at I hh e1 e2
  refine notin_any dx hu (nest_of I nk x _ (nv_of d x nk rd k1) rx) k2 ?_
  refine ⟨.bl _, H, I.tok _, rfl, ?_⟩
  simp only [if_true] at q
  rw [dget_isSome] at q
  have e : decide (nk ∈ ks) = decide (some nk ∈ kvs.map fun p => toKey p.1) := by simp only [key_mem hk]
  rw [e]
  exact q
abbrev rIn3 (X : Cx) (neg : Bool) : R2 := fun x y H Q => rInA X.K neg x y H Q ∨ rInD X neg x y H Q
theorem o_in (hu : X.A.units + 65 < cLine) : OpR X (compareOp .In) (rIn3 X false) := (o_inA hu).or (o_inD (by omega))
theorem o_notin (hu : X.A.units + 65 < cLine) : OpR X (compareOp .NotIn) (rIn3 X true) := (o_notinA hu).or (o_notinD (by omega))
theorem s_in (neg : Bool) : Snd2 X.K X.w (rIn3 X neg) (gIn neg) := by
  intro ρ H hp x y d u v hp' Q h rx ry e q
  unfold gIn at e
  split at e
  · split at e
    · rename_i b eb
      cases e
      cases ry with
      | @tup _ p vs s1 r1 => exact .inl (inB_rules neg h rx (.inr s1) r1 eb (q ρ H _ (Le.refl _ _ _) h (.bl _)))
    · cases e
  · rename_i n
    split at e
    · rename_i ys ey
      split at e
      · rename_i b eb
        cases e
        cases ry with
        | @ref _ p f1 =>
          obtain ⟨vs, s1, r1⟩ := lsOf_sq h f1 ey
          exact .inl (inB_rules neg h rx (.inl s1) r1 eb (q ρ H _ (Le.refl _ _ _) h (.bl _)))
      · cases e
    · split at e
      · rename_i kvs nk e1 e2
        cases e
        cases ry with
        | @ref _ p f1 => exact .inr ⟨ρ, hp, n, p, x, kvs, nk, h, f1, dctOf_some e1, rfl, rx, e2, q ρ H _ (Le.refl _ _ _) h (.bl _)⟩
      · cases e
  · cases e
end
/-! ### d[k] -/
def gIxD : Op2 := fun x y hp => match x with
  | .ref n => match dctOf hp n, keyOf y with
    | some kvs, some nk => match dGet nk kvs with
      | some d => .ok d hp
      | none => .fail
    | _, _ => gIx x y hp
  | _ => gIx x y hp
def rIxDD (X : Cx) : R2 := fun x y H Q => ∃ (ρ : List Addr) (hp : Ht) (n : Nat) (a : Addr) (d e : D) (kvs : List (D × D)) (nk : NestedKey), HR X.K X.w ρ H hp ∧ ρ[n]? = some a ∧ hp[n]? = some (.dct kvs) ∧ x = .ref a ∧ R X.K ρ H d y ∧ keyOf d = some nk ∧ dGet nk kvs = some e ∧ ∀ v, R X.K ρ H e v → Q v H
section
variable {X : Cx}
theorem ix_dct (hu : X.A.units + 10 < cLine) : IxR X (rIxDD X) := by
  intro value slice pins s σ H x y v u Q I rx ry h hs
  obtain ⟨ρ, hp, n, a, d, e, kvs, nk, hh, e1, e2, rfl, rd, ek, eg, q⟩ := h
  obtain ⟨k1, k2⟩ := keyOf_some ek
  cases rx
  obtain ⟨es, ks, o, xs, ep, e3, r, nd, hk, dx⟩ := dct_at I hh e1 e2
  have hm : nk ∈ ks := by
    rw [key_mem hk]
    exact Classical.byContradiction fun c => by rw [dget_none.mpr c] at eg; cases eg
  have kk : NestedIs s.heap nk u := nest_of I nk y _ (nv_of d y nk rd k1) ry
  have hT := dx.typeIs
  unfold subscriptTail
  refine wpAny_bind ?_
  rw [getitemInPython_of_ne hT.not_modules]
  refine wpAny_bind (wpAny_specialOf hT PySem.F.slot_dict_getitem.lookup ?_)
  have fin : wpAny (model X.prog X.w) X.A (subscripted slice false (.ref a) u) (fun r s₃ => wpAny (model X.prog X.w) X.A (letTemporaryGo value (.ref a) r >>= fun _ => pure r) (EP X pins σ Q) X.xe s₃) X.xe s := by
    rw [hs]
    refine wpAny_operating (getItem_any dx hu kk k2 hm fun j' e' hj' he' => wpAny_bind (wpAny_letTemporaryGo (wpAny_pure ?_)))
    have hlt : j' < xs.size := by rw [← dx.keys.len]; exact (List.getElem?_eq_some_iff.mp hj').1
    obtain ⟨w0, rw0, rv0⟩ := kvs_val (x := e') r dx.ents nd eg (by rw [hk, List.getElem?_map, hj']; rfl) (by rw [Array.getElem?_toList]; exact he')
    exact ⟨w0, H, I.tok _, rv0, q w0 rw0⟩
  first
    | exact wpAny_pure (wpAny_bind fin)
    | exact wpAny_bind (wpAny_pure (wpAny_bind fin))
    | exact wpAny_bind fin
theorem s_ixD (hu : X.A.units + 10 < cLine) : Snd2 X.K X.w (fun x y H Q => rIx X.K x y H Q ∨ rIxDD X x y H Q) gIxD := by
  intro ρ H hp x y d u v hp' Q h rx ry e q
  unfold gIxD at e
  split at e
  · rename_i n
    split at e
    · rename_i kvs nk e1 e2
      split at e
      · rename_i d' e3
        cases e
        cases rx with
        | @ref _ p f1 =>
          exact .inr ⟨ρ, hp, n, p, y, _, kvs, nk, h, f1, dctOf_some e1, rfl, ry, e2, e3, fun v r => q ρ H v (Le.refl _ _ _) h r⟩
      · cases e
    · exact .inl (s_ix ρ H hp _ y d u v hp' Q h rx ry e q)
  · exact .inl (s_ix ρ H hp _ y d u v hp' Q h rx ry e q)
theorem d_ix {fa fb : EF} {a b : Expr} {pos : Pos} (hu : X.A.units + 10 < cLine) (ha : PE X a (tE X.K X.w fa)) (hb : PE X b (tE X.K X.w fb)) (hs : PlainIx b := by exact fun _ _ => rfl) : PE X (.Subscript a b pos) (tE X.K X.w (fBin gIxD fa fb)) :=
  peW (pe_ix (ix_seq.or (ix_dct hu)) ha hb hs) fun _ _ _ h => binI (s_ixD hu) h
end
/-! ### d[k] = v -/
def gPut : D → D → D → Ht → Option Ht := fun o i v hp => match o with
  | .ref n => match dctOf hp n, keyOf i with
    | some kvs, some nk => if kvs.length < sizeLine then some (hp.set n (.dct (dPut nk i v kvs))) else none
    | _, _ => gSet o i v hp
  | _ => none
def rPutD (X : Cx) : TSet := fun o i v H Q => ∃ (ρ : List Addr) (hp : Ht) (n : Nat) (a : Addr) (d e : D) (kvs : List (D × D)) (nk : NestedKey), HR X.K X.w ρ H hp ∧ ρ[n]? = some a ∧ hp[n]? = some (.dct kvs) ∧ o = .ref a ∧ R X.K ρ H d i ∧ R X.K ρ H e v ∧ keyOf d = some nk ∧ kvs.length < sizeLine ∧
  ∀ H', Le X.K ρ H ρ H' → HR X.K X.w ρ H' (hp.set n (.dct (dPut nk d e kvs))) → Q H'
section
variable {X : Cx}
theorem put_dct (hu : X.A.units + 10 < cLine) : PSet X (rPutD X) := by
  intro pins s σ H o i v ov iv vv Q I ro ri rv h
  obtain ⟨ρ, hp, n, a, d, e, kvs, nk, hh, e1, e2, rfl, rd, re, ek, hz, q⟩ := h
  obtain ⟨k1, k2⟩ := keyOf_some ek
  cases ro
  obtain ⟨es, ks, o, xs, ep, e3, r, nd, hk, dx⟩ := dct_at I hh e1 e2
  have kk : NestedIs s.heap nk iv := nest_of I nk i _ (nv_of d i nk rd k1) ri
  have hes : es.length = kvs.length := r.length.symm
  have fin : ∀ (es' : List Ent) (o' : Obj) (h' : Heap) (t' : Nat), es'.length ≤ sizeLine → Heap.SameBut a s.heap h' → h'.get? a = some o' → o'.ExactDict → (∃ xs' ep', o'.data = .dict xs' ep' ∧ Paired EntOk es' xs'.toList) → KVs X.K X.w ρ H (dPut nk d e kvs) es' →
      ∃ H', Inv X pins σ H' { s with heap := h', toks := t' } ∧ Q H' := by
    intro es' o' h' t' hl sb hg hx hdat hkv
    obtain ⟨xs', ep', hd, hp2⟩ := hdat
    have new : ObjOk X.prog X.w (upd H a (.ext (DctP a es'))) h' a (.ext (DctP a es')) := by
      refine ⟨⟨dx.low, hl, o', xs', ep', hg, hx, hd, hp2⟩, ⟨o', hg⟩, fun h1 h2 p k => ?_⟩
      obtain ⟨p1, p2, o3, x3, p3, g1, g2, g3, g4⟩ := p
      exact ⟨p1, p2, o3, x3, p3, k _ g1, g2, g3, g4⟩
    have l : Le X.K ρ H ρ (upd H a (.ext (DctP a es'))) := Le.put e3 (fun _ => nofun) (fun _ _ => nofun)
    refine ⟨_, d_write (t' := t') I (by rw [e3]; exact True.intro) sb ⟨o', hg⟩ new, q _ l (hh.put e1 e2 rfl rfl ⟨es', upd_same, hkv.up l, dput_nodup k1 nd⟩)⟩
  refine setItem_any dx hu kk k2 (fun hn h' o' sb hg hx hd => ?_) fun j hj h' o' sb hg hx hd => ?_
  · have hn' : some nk ∉ kvs.map (fun p => toKey p.1) := by rw [← key_mem hk]; exact hn
    exact fin _ o' h' _ (by rw [List.length_append]; simp; omega) sb hg hx ⟨_, _, hd, ents_push dx.ents ri rv⟩ (kvs_put0 k1 k2 rd re r hn')
  · have hj' : (kvs.map fun p => toKey p.1)[j]? = some (some nk) := by rw [hk, List.getElem?_map, hj]; rfl
    exact fin _ o' h' _ (by rw [List.length_modify]; exact dx.sz) sb hg hx ⟨_, _, hd, ents_mod rv j dx.ents⟩ (kvs_put1 re r nd hj')
theorem PSet.or {t t' : TSet} (h : PSet X t) (h' : PSet X t') : PSet X (fun o i v H Q => t o i v H Q ∨ t' o i v H Q) := by
  intro pins s σ H o i v ov iv u Q I ro ri rv q
  rcases q with q | q
  · exact h pins s σ H o i v ov iv u Q I ro ri rv q
  · exact h' pins s σ H o i v ov iv u Q I ro ri rv q
abbrev rPut2 (X : Cx) : TSet := fun o i v H Q => rSetL o i v H Q ∨ rPutD X o i v H Q
theorem o_put (hu : X.A.units + 10 < cLine) : PSet X (rPut2 X) := PSet.or set_list (put_dct hu)
theorem s_put : SndS X.K X.w (rPut2 X) gPut := by
  intro ρ H hp o i v ov iv vv hp' Q h ro ri rv e q
  unfold gPut at e
  split at e
  · rename_i n
    split at e
    · rename_i kvs nk e1 e2
      split at e
      · rename_i hz
        cases e
        cases ro with
        | @ref _ p f1 =>
          exact .inr ⟨ρ, hp, n, p, i, v, kvs, nk, h, f1, dctOf_some e1, rfl, ri, rv, e2, hz, fun H' l h' => q ρ H' l h'⟩
      · cases e
    · exact .inl (s_set ρ H hp _ i v ov iv vv hp' Q h ro ri rv e q)
  · cases e
end

/-! ### {} -/
def fDct0 : EF := fun _ hp => .ok (.ref hp.length) (hp ++ [.dct []])
section
variable {X : Cx} {pos : Pos}
theorem dct_new {P : Program} {w : World} {H : Hp} (h : Heap) (hb : sysModules < h.objs.size) : ObjOk P w H (h.push { cls := .type "dict", data := .dict #[] }) h.objs.size (.ext (DctP h.objs.size [])) := by
  refine ⟨⟨beq_eq_false_iff_ne.mpr (Ne.symm (Nat.ne_of_lt hb)), Nat.zero_le _, _, #[], 0, Heap.get?_push_size _ rfl, ⟨rfl, rfl, rfl⟩, rfl, .nil⟩, ⟨_, Heap.get?_push_size _ rfl⟩, fun h1 h2 p k => ?_⟩
  obtain ⟨p1, p2, o3, x3, p3, g1, g2, g3, g4⟩ := p
  exact ⟨p1, p2, o3, x3, p3, k _ g1, g2, g3, g4⟩
theorem newDct {ρ : List Addr} {H : Hp} {hp : Ht} {kvs : List (D × D)} {es : List Ent} {p : Addr} {K : PySem.W.Frag} {w : World} (h : HR K w ρ H hp) (hn : H p = none) (r : KVs K w ρ H kvs es) (nd : (kvs.map fun p => toKey p.1).Nodup) :
    HR K w (ρ ++ [p]) (upd H p (.ext (DctP p es))) (hp ++ [.dct kvs]) ∧ R K (ρ ++ [p]) (upd H p (.ext (DctP p es))) (.ref hp.length) (.ref p) := by
  refine ⟨h.new hn ⟨es, upd_same, r.up (Le.new _ hn _), nd⟩, .ref ?_⟩
  rw [← h.len, List.getElem?_append_right (Nat.le_refl _), Nat.sub_self]
  rfl
def tDNew0 : TE := fun _ H Q => ∀ p, H p = none → Q (.ref p) (upd H p (.ext (DctP p [])))
theorem pe_dnew0 : PE X (.Dict [] [] pos) tDNew0 := ⟨fun pins s σ H Q I h =>
  wpAny_Dict_empty ⟨.ref s.heap.objs.size, _, I.laid (a := s.heap.objs.size) (o := .ext (DctP s.heap.objs.size [])) (t' := s.toks) (fun _ _ q => Heap.get?_push_of_some _ q) (Nat.le_refl _) (dct_new s.heap I.big), rfl, h _ (I.hok.fresh (Nat.le_refl _))⟩⟩
theorem d_dct0 : PE X (.Dict [] [] pos) (tE X.K X.w fDct0) := by
  refine peW pe_dnew0 fun σ H Q h => ?_
  obtain ⟨ρ, env, hp, d, hp', a, e, q⟩ := h
  cases e
  intro p hn
  obtain ⟨q1, q2⟩ := newDct a.hr hn (KVs.nil (K := X.K) (w := X.w) (ρ := ρ) (H := H)) List.nodup_nil
  exact q _ _ _ (Le.new _ hn _) q1 q2
end
end DL
set_option Elab.async false
set_option linter.all false
set_option maxRecDepth 100000
set_option maxHeartbeats 4000000
namespace DL
open PySem PySem.Spec PyProof.Rows L2

/-! ### sorted -/
def encD (hp : Ht) (d : D) : PyData := (py hp d).getD .none
/-- can be put in order, as the machine does -/
def sortOk (hp : Ht) (ds : List D) : Bool := ds.all (fun d => (py hp d).isSome) && ds.all (fun a => ds.all fun b => PySem.W.alike (encD hp a) (encD hp b)) && ds.all (fun d => decide ((encD hp d).depth ≤ 40)) &&
  (ds.all (fun d => match encD hp d with | .tuple (_ :: _) => true | _ => false) || ds.all (fun d => match encD hp d with | .tuple _ => false | .none => false | _ => true)) && decide (ds.length ≤ sizeLine)
def sortD (hp : Ht) (ds : List D) : List D := ds.mergeSort (PySem.W.dataLe false (encD hp))
/-- what list(..), sorted(..) collect -/
def keysOf (hp : Ht) (n : Nat) : Option (List D) := match lsOf hp n with
  | some xs => some xs
  | none => (dctOf hp n).map fun kvs => kvs.map (·.1)
def gSorted : OpN := fun xs hp => match xs with
  | [.ref n] => match keysOf hp n with
    | some ds => if sortOk hp ds = true then .ok (.ref hp.length) (hp ++ [.lst (sortD hp ds)]) else .fail
    | none => .fail
  | _ => .fail
def rSortedG (X : Cx) : List V → Hp → VK → Prop := fun vs H Q => ∃ (ρ : List Addr) (hp : Ht) (n : Nat) (a : Addr) (ds : List D), HR X.K X.w ρ H hp ∧ ρ[n]? = some a ∧ vs = [.ref a] ∧ keysOf hp n = some ds ∧ sortOk hp ds = true ∧
  ∀ us p, Rs X.K ρ H (sortD hp ds) us → H p = none → Q (.ref p) (upd H p (.lst us))
section
variable {X : Cx} {pins : List (Addr × Obj)} {σ : L2.St} {H : Hp} {s : Shared} {hp : Ht} {ρ : List Addr}
/-- a value that is the data -/
def IsD' (K : PySem.W.Frag) (ρ : List Addr) (H : Hp) (v : Value) (d : D) : Prop := ∃ u, RelV u v ∧ R K ρ H d u
theorem each_of {K : PySem.W.Frag} : ∀ {ds : List D} {us : List V} {vs : List Value}, Rs K ρ H ds us → Vals us vs → PySem.W.EachIs (IsD' K ρ H) vs ds
  | _, _, _, .nil, r => by cases r; exact .nil
  | _, _, _, .cons a t, r => by
    cases r with
    | cons b r => exact .cons ⟨_, b, a⟩ (each_of t r)
theorem of_each {K : PySem.W.Frag} : ∀ {ds : List D} {vs : List Value}, PySem.W.EachIs (IsD' K ρ H) vs ds → ∃ us, Vals us vs ∧ Rs K ρ H ds us
  | _, _, .nil => ⟨[], .nil, .nil⟩
  | _, _, .cons ⟨u, a, b⟩ t => by
    obtain ⟨us, h1, h2⟩ := of_each t
    exact ⟨u :: us, .cons a h1, .cons b h2⟩
theorem each_reads (I : Inv X pins σ H s) (h : HR X.K X.w ρ H hp) : ∀ {ds : List D} {vs : List Value}, PySem.W.EachIs (IsD' X.K ρ H) vs ds → (∀ d ∈ ds, (py hp d).isSome = true) → PySem.W.EachIs (fun v d => ∃ as, Reads s.heap v (encD hp d) as) vs ds
  | _, _, .nil, _ => .nil
  | d :: _, _, .cons ⟨u, a, b⟩ t, hs => by
    obtain ⟨p, e⟩ := Option.isSome_iff_exists.mp (hs d List.mem_cons_self)
    refine .cons ?_ (each_reads I h t fun d hd => hs d (List.mem_cons_of_mem _ hd))
    have := Dp.reads I p _ _ (py_dp h b e) a
    unfold encD
    rw [e]
    exact this
structure SortOk (hp : Ht) (ds : List D) : Prop where
  py : ∀ d ∈ ds, (py hp d).isSome = true
  al : PySem.W.AllAlike (ds.map (encD hp))
  dp : ∀ d ∈ ds, (encD hp d).depth ≤ 40
  so : PySem.W.Sortable (ds.map (encD hp))
  sz : ds.length ≤ sizeLine
theorem sortOk_of {ds : List D} (h : sortOk hp ds = true) : SortOk hp ds := by
  unfold sortOk at h
  simp only [Bool.and_eq_true, decide_eq_true_eq, Bool.or_eq_true] at h
  obtain ⟨⟨⟨⟨h1, h2⟩, h3⟩, h4⟩, h5⟩ := h
  refine ⟨fun d hd => List.all_eq_true.mp h1 d hd, ?_, fun d hd => of_decide_eq_true (List.all_eq_true.mp h3 d hd), ?_, h5⟩
  · intro d hd d' hd'
    obtain ⟨b, hb, rfl⟩ := List.mem_map.mp hd
    obtain ⟨b', hb', rfl⟩ := List.mem_map.mp hd'
    exact List.all_eq_true.mp (List.all_eq_true.mp h2 b hb) b' hb'
  · rcases h4 with h4 | h4
    · refine .inl fun d hd => ?_
      obtain ⟨b, hb, rfl⟩ := List.mem_map.mp hd
      have q := List.all_eq_true.mp h4 b hb
      split at q
      · rename_i x r e; exact ⟨x, r, e⟩
      · cases q
    · refine .inr fun d hd => ?_
      obtain ⟨b, hb, rfl⟩ := List.mem_map.mp hd
      have q := List.all_eq_true.mp h4 b hb
      split at q
      · cases q
      · cases q
      · rename_i n1 n2
        exact ⟨n2, n1⟩
theorem keysOf_dct {n : Nat} {ds : List D} (e : keysOf hp n = some ds) (hl : lsOf hp n = none) : ∃ kvs, hp[n]? = some (.dct kvs) ∧ ds = kvs.map (·.1) := by
  unfold keysOf at e
  rw [hl] at e
  simp only [Option.map_eq_some_iff] at e
  obtain ⟨kvs, e1, e2⟩ := e
  exact ⟨kvs, dctOf_some e1, e2.symm⟩
/-- the keys of a dict object -/
theorem keys_each {K : PySem.W.Frag} {w : World} {kvs : List (D × D)} {es : List Ent} {xs : List DictEntry} (r : KVs K w ρ H kvs es) (p : Paired EntOk es xs) : PySem.W.EachIs (IsD' K ρ H) (xs.map (·.key)) (kvs.map (·.1)) := by
  induction r generalizing xs with
  | nil => cases p; exact .nil
  | cons e1 e2 r1 r2 t ih =>
    cases p with
    | cons q p => exact .cons ⟨_, q.2.1, r1⟩ (ih p)
theorem cr_sortedG (hc : X.calm = true) (hu : X.A.units + 64 < cLine) : CallR X (.builtin "sorted") (rSortedG X) := by
  intro pins s σ H vs us Q I r h
  obtain ⟨ρ, hp, n, a, ds, hh, e1, rfl, ek, so, q⟩ := h
  have S := sortOk_of so
  rw [Vals.ref1 r]
  cases hl : lsOf hp n with
  | some xs =>
    have : xs = ds := by
      unfold keysOf at ek
      rw [hl] at ek
      exact Option.some.inj ek
    subst this
    obtain ⟨ws, sq, rs⟩ := lsOf_sq hh e1 hl
    obtain ⟨its, rv, hpl, hz⟩ := I.list sq
    have ee := each_of rs rv
    refine PySem.W.sorted_data (enc := encD hp) (R := IsD' X.K ρ H) hpl.isList ee (each_reads I hh ee S.py) S.al S.so S.sz (fun b hb => by have := S.dp b hb; omega) fun out ho eo => ?_
    obtain ⟨os, h1, h2⟩ := of_each eo
    obtain ⟨ep, he'⟩ := PyProof.Rows.sortedAll_at s.heap its out.toArray
    have hlen : os.length ≤ sizeLine := by rw [← h2.length, List.length_mergeSort]; exact S.sz
    exact ⟨.ref _, upd H (s.heap.objs.size + 1) (.lst os), I.laid (t' := s.toks) (fun _ _ => PyProof.Rows.sortedAll_old) (Nat.le_succ _) ⟨hlen, out, ep, h1, he'⟩, rfl, q os _ h2 (I.hok.fresh (Nat.le_succ _))⟩
  | none =>
    obtain ⟨kvs, ex, rfl⟩ := keysOf_dct ek hl
    obtain ⟨es, ks, o, xs, ep, e3, r3, nd, hk, dx⟩ := dct_at I hh e1 ex
    have hl2 : xs.size = kvs.length := by
      have h1 := Paired.length dx.ents
      have h2 := r3.length
      simp only [Array.length_toList] at h1
      omega
    refine Calls.call_function_entry PyProof.Rows.kind_sorted PyProof.Rows.plain_sorted PyProof.Rows.entry_sorted (PyProof.Rows.args_sorted1 _) ?_
    unfold Builtin.«sorted»
    refine wpAny_bind (m := checkCount "sorted" 1 1 _) (wpAny_pure ?_)
    refine wpAny_bind (PySem.W.kdu_collect (A := X.A.in1) (PySem.KdlSrc.rawDict (es := xs) (ep := ep) dx.low) (I.ok.hd hc) ⟨o, dx.get, dx.ex, dx.dat⟩ (by rw [hl2, r3.length]; exact dx.sz) fun h' tk acc hk' hacc => ?_)
    have hkeys : acc.toList = xs.toList.map (·.key) := by
      apply List.ext_getElem?
      intro j
      by_cases hj : j < xs.size
      · have h1 : acc.toList[j]? = some (acc.toList[j]'(by rw [Array.length_toList, hacc.1]; exact hj)) := List.getElem?_eq_getElem _
        obtain ⟨hi, ev⟩ := hacc.2 j (acc.toList[j]'(by rw [Array.length_toList, hacc.1]; exact hj)) (by rw [← Array.getElem?_toList]; exact h1)
        rw [h1, ev, List.getElem?_map, Array.getElem?_toList, Array.getElem?_eq_getElem hj]
        rfl
      · rw [List.getElem?_eq_none (by rw [Array.length_toList, hacc.1]; omega), List.getElem?_eq_none (by rw [List.length_map, Array.length_toList]; omega)]
    have ee : PySem.W.EachIs (IsD' X.K ρ H) acc.toList (kvs.map (·.1)) := by rw [hkeys]; exact keys_each r3 dx.ents
    have hal : acc.toList.length = kvs.length := by rw [hkeys, List.length_map, Array.length_toList, hl2]
    have hsz : acc.toList.length ≤ sizeLine := by rw [hal]; have := S.sz; rw [List.length_map] at this; exact this
    have I1 : Inv X pins σ H { s with heap := h', toks := tk } := I.kept hk'
    have er := each_reads I1 hh ee S.py
    refine wpAny_bind (wpAny_newList ?_ hsz)
    have hoL : (h'.push (seqObj "list" acc.toList.toArray 0)).get? h'.objs.size = some (seqObj "list" acc.toList.toArray 0) := Heap.get?_push_size _ rfl
    show wpAny _ _ _ _ _ { s with heap := h'.push (seqObj "list" acc.toList.toArray 0), toks := tk }
    have hold : ∀ b u, h'.get? b = some u → (PySem.W.sortingHeap (h'.push (seqObj "list" acc.toList.toArray 0)) h'.objs.size acc.toList).get? b = some u := fun b u e =>
      PySem.W.sortingHeap_old (Nat.ne_of_lt (Heap.lt_size e)) (Heap.get?_push_of_some _ e)
    have er' : PySem.W.EachIs (fun v d => ∃ as, Reads (PySem.W.sortingHeap (h'.push (seqObj "list" acc.toList.toArray 0)) h'.objs.size acc.toList) v (encD hp d) as) acc.toList (kvs.map (·.1)) :=
      er.mono fun _ _ ⟨as, r⟩ => ⟨as, PyProof.Rows.Reads.keeps hold r⟩
    have SA := PySem.W.SortsAt.data (prog := X.prog) (w := X.w) (A := X.A.in1.in1) (s := { s with heap := PySem.W.sortingHeap (h'.push (seqObj "list" acc.toList.toArray 0)) h'.objs.size acc.toList, toks := tk })
      (PySem.W.each_map (R := fun v d => ∃ as, Reads (PySem.W.sortingHeap (h'.push (seqObj "list" acc.toList.toArray 0)) h'.objs.size acc.toList) v d as) (encD hp) er') S.al S.so (fun d hd => by
        obtain ⟨b, hb, rfl⟩ := List.mem_map.mp hd
        have := S.dp b hb
        show X.A.units + 2 + _ < cLine
        omega)
    refine wpAny_bind (wpAny_holding (wpAny_call_entry PyProof.Rows.slot_list_sort ⟨_, hoL, rfl⟩ PyProof.Rows.entry_list_sort
      (PySem.W.list_sort_vals (s := { s with heap := h'.push (seqObj "list" acc.toList.toArray 0), toks := tk }) hoL SA hsz ⟨_, rfl, ?_⟩) (PyProof.Rows.args_list_sort _)))
    have eo := PySem.W.sortVals_data (enc := encD hp) false ee er' S.al
    obtain ⟨os, h1, h2⟩ := of_each eo
    obtain ⟨e', he'⟩ := PyProof.Rows.sortedHeap_at (vs := acc.toList) (out := (PySem.W.sortVals (PySem.W.dataKind (PySem.W.sortingHeap (h'.push (seqObj "list" acc.toList.toArray 0)) h'.objs.size acc.toList) (List.map (encD hp) (kvs.map (·.1)))) false acc.toList acc.toList).toArray) hoL
    have hlen : os.length ≤ sizeLine := by rw [← h2.length, List.length_mergeSort]; exact S.sz
    refine wpAny_pure ⟨_, rfl, .ref h'.objs.size, upd H h'.objs.size (.lst os), I1.laid (t' := tk) (fun b u e => ?_) (Nat.le_refl _)
      (show ObjOk X.prog X.w _ _ _ (.lst os) from ⟨hlen, _, e', h1, he'⟩), rfl, q os _ h2 (I1.hok.fresh (Nat.le_refl _))⟩
    have hb : b < h'.objs.size := Heap.lt_size e
    rw [PyProof.Rows.sortedHeap_old (Nat.ne_of_lt hb) (by rw [size_push']; exact Nat.lt_succ_of_lt hb)]
    exact Heap.get?_push_of_some _ e
theorem s_sortedG : SndN X.K X.w (rSortedG X) gSorted := by
  intro ρ H hp xs d us hp' Q h rs e q
  unfold gSorted at e
  split at e
  · rename_i n
    split at e
    · rename_i ds ek
      split at e
      · rename_i so
        cases e
        cases rs with
        | cons r t =>
          cases t
          cases r with
          | @ref _ p f1 =>
            refine ⟨ρ, hp, n, p, ds, h, f1, rfl, ek, so, fun us p2 rs hn => ?_⟩
            obtain ⟨q1, q2⟩ := newLst h hn rs
            exact q _ _ _ (Le.new _ hn _) q1 q2
      · cases e
    · cases e
  · cases e
end
end DL
set_option Elab.async false
set_option linter.all false
set_option maxRecDepth 100000
set_option maxHeartbeats 4000000
namespace DL
open PySem PySem.Spec PyProof.Rows L2

section
variable {X : Cx} {s : Shared} {a : Addr} {es : List Ent} {ks : List NestedKey} {o : Obj} {xs : Array DictEntry} {ep : Nat} {A : Around} {E : Value → Shared → Prop} {nk : NestedKey} {key : Value}
theorem dictSet_any {v : Value} {Q : Unit → Shared → Prop} (d : DX X s a es ks o xs ep) (hu : A.units + 9 < cLine) (hk : NestedIs s.heap nk key) (hd : nk.depth ≤ 8)
    (h0 : nk ∉ ks → ∀ h' o', Heap.SameBut a s.heap h' → h'.get? a = some o' → o'.ExactDict → o'.data = .dict (xs.push ⟨nk.hash X.w, key, v⟩) (ep + 1) → Q () { s with heap := h', toks := s.toks + nk.draws })
    (h1 : ∀ (j : Nat), ks[j]? = some nk → ∀ h' o', Heap.SameBut a s.heap h' → h'.get? a = some o' → o'.ExactDict → o'.data = .dict (xs.modify j fun e => { e with val := v }) ep → Q () { s with heap := h', toks := s.toks + nk.draws }) :
    wpAny (model X.prog X.w) A (dictSet a key v) Q E s := by
  unfold dictSet
  try with_reducible refine wpAny_holding ?_
  refine wpAny_bind (pyHash_key nk key _ s _ hk (by omega) ?_)
  unfold dictSetHashed
  try with_reducible refine wpAny_holding ?_
  have hsz : xs.size ≤ sizeLine := by
    have := Paired.length d.ents
    have h2 := d.sz
    rw [this, Array.length_toList] at h2
    exact h2
  refine wpAny_bind (find_any (s := { s with toks := s.toks + nk.draws }) (by omega) hk hd d.get d.dat (d.tok _).keys (fun hn => ?_) fun j hj => ?_)
  · exact wpAny_bind (wpAny_rule (wpAny_updateDictKeys (hz := hsz) (s := { s with toks := s.toks + nk.draws }) d.get d.dat (h0 hn _ _ (Heap.SameBut.update ..)
      (Heap.get?_update_self _ d.get (Obj.isFreed_of_dict (Obj.data_mapDictKeys d.dat _))) (d.ex.mapDictKeys _) (Obj.data_mapDictKeys d.dat _))))
  · exact wpAny_bind (wpAny_rule (wpAny_bind (wpAny_updateDict (s := { s with toks := s.toks + nk.draws }) d.get d.dat (wpAny_point (h1 j hj _ _ (Heap.SameBut.update ..)
      (Heap.get?_update_self _ d.get (Obj.isFreed_of_dict (Obj.data_mapDict d.dat _))) (d.ex.mapDict _) (Obj.data_mapDict d.dat _))))))
end

/-! ### dict(pairs), list(d) -/
def pairsOf : List D → Option (List (D × D))
  | [] => some []
  | .tup [k, v] :: r => (pairsOf r).map fun ps => (k, v) :: ps
  | _ => none
def putAll (acc : List (D × D)) : List (D × D) → Option (List (D × D))
  | [] => some acc
  | (k, v) :: r => match keyOf k with
    | some nk => putAll (dPut nk k v acc) r
    | none => none
def gDict : OpN := fun xs hp => match xs with
  | [.ref n] => match lsOf hp n with
    | some ys => match pairsOf ys with
      | some ps => match putAll [] ps with
        | some kvs => if ps.length ≤ sizeLine then .ok (.ref hp.length) (hp ++ [.dct kvs]) else .fail
        | none => .fail
      | none => .fail
    | none => .fail
  | _ => .fail
def rDict (X : Cx) : List V → Hp → VK → Prop := fun vs H Q => ∃ (ρ : List Addr) (hp : Ht) (n : Nat) (a : Addr) (ys : List D) (ps kvs : List (D × D)), HR X.K X.w ρ H hp ∧ ρ[n]? = some a ∧ vs = [.ref a] ∧ lsOf hp n = some ys ∧ pairsOf ys = some ps ∧ putAll [] ps = some kvs ∧ ps.length ≤ sizeLine ∧
  ∀ es p, KVs X.K X.w ρ H kvs es → (kvs.map fun p => toKey p.1).Nodup → H p = none → Q (.ref p) (upd H p (.ext (DctP p es)))
section
variable {X : Cx} {pins : List (Addr × Obj)} {σ : L2.St} {H : Hp} {s : Shared} {hp : Ht} {ρ : List Addr}
theorem putAll_take : ∀ {ps acc kvs : List (D × D)} (i : Nat), putAll acc ps = some kvs → ∃ m, putAll acc (ps.take i) = some m
  | [], acc, _, i, _ => by cases i <;> exact ⟨acc, rfl⟩
  | _ :: _, acc, _, 0, _ => ⟨acc, rfl⟩
  | (k, v) :: r, acc, _, i + 1, h => by
    simp only [putAll] at h
    split at h
    · rename_i nk e
      obtain ⟨m, hm⟩ := putAll_take i h
      exact ⟨m, by simp only [List.take_succ_cons, putAll, e]; exact hm⟩
    · cases h
theorem putAll_step : ∀ {ps acc m kvs : List (D × D)} {i : Nat} {p : D × D}, putAll acc ps = some kvs → putAll acc (ps.take i) = some m → ps[i]? = some p → ∃ nk, keyOf p.1 = some nk ∧ putAll acc (ps.take (i + 1)) = some (dPut nk p.1 p.2 m)
  | [], _, _, _, i, _, _, _, e => by simp at e
  | (k, v) :: r, acc, m, kvs, 0, p, h, hm, e => by
    simp at e
    subst e
    simp only [List.take_zero, putAll, Option.some.injEq] at hm
    subst hm
    simp only [putAll] at h
    split at h
    · rename_i nk en
      exact ⟨nk, en, by simp [putAll, en]⟩
    · cases h
  | (k, v) :: r, acc, m, kvs, i + 1, p, h, hm, e => by
    simp only [putAll] at h
    split at h
    · rename_i nk en
      simp only [List.take_succ_cons, putAll, en] at hm ⊢
      exact putAll_step h hm (by simpa using e)
    · cases h
theorem putAll_len : ∀ {ps acc m : List (D × D)}, putAll acc ps = some m → m.length ≤ acc.length + ps.length
  | [], acc, m, h => by simp only [putAll, Option.some.injEq] at h; subst h; simp
  | (k, v) :: r, acc, m, h => by
    simp only [putAll] at h
    split at h
    · rename_i nk en
      have h1 := putAll_len h
      have h2 := dput_len (nk := nk) (k := k) (v := v) (kvs := acc)
      simp only [List.length_cons]; omega
    · cases h
/-- the pairs in the machine's heap -/
theorem pairs_at (I : Inv X pins σ H s) : ∀ {ys : List D} {us : List V} {its : List Value} {ps : List (D × D)}, Rs X.K ρ H ys us → Vals us its → pairsOf ys = some ps →
    ∃ l : List (Addr × Value × Value), its = l.map (fun q => Value.ref q.1) ∧ l.length = ps.length ∧ ∀ (j : Nat) (q : Addr × Value × Value) (p : D × D), l[j]? = some q → ps[j]? = some p → s.heap.IsTuple q.1 #[q.2.1, q.2.2] ∧ IsD' X.K ρ H q.2.1 p.1 ∧ IsD' X.K ρ H q.2.2 p.2
  | [], _, _, _, r, v, e => by
    cases r; cases v
    simp only [pairsOf, Option.some.injEq] at e
    subst e
    exact ⟨[], rfl, rfl, fun j q p h => by simp at h⟩
  | y :: ys, _, _, ps, .cons r1 r2, .cons v1 v2, e => by
    unfold pairsOf at e
    split at e
    · rename_i h; cases h
    · rename_i k v r h
      cases h
      simp only [Option.map_eq_some_iff] at e
      obtain ⟨ps', e1, rfl⟩ := e
      obtain ⟨l, h1, h2, h3⟩ := pairs_at I r2 v2 e1
      cases r1 with
      | @tup _ T ws sq rr =>
        cases v1
        obtain ⟨jts, rv, ht, hz⟩ := I.tuple sq
        cases rr with
        | cons ra rb =>
          cases rb with
          | cons rb rc =>
            cases rc
            cases rv with
            | cons va vb =>
              cases vb with
              | cons vb vc =>
                cases vc
                rename_i u1 u2 x1 x2
                refine ⟨(T, x1, x2) :: l, by rw [List.map_cons, h1], by simp [h2], fun j q p hq hp => ?_⟩
                cases j with
                | zero =>
                  simp at hq hp
                  subst hq hp
                  exact ⟨ht, ⟨_, va, ra⟩, ⟨_, vb, rb⟩⟩
                | succ j => exact h3 j q p (by simpa using hq) (by simpa using hp)
    · cases e
theorem dx_keep {h h' : Heap} {d : Addr} (k : ∀ b o, b ≠ d → h.get? b = some o → h'.get? b = some o) {nk : NestedKey} {v : Value} (hd : ∀ o vs n, h.get? d = some o → o.data ≠ .seq vs n) (x : NestedIs h nk v) : NestedIs h' nk v :=
  NestedIs.at (fun a o vs n e q => by
    by_cases c : a = d
    · subst c; exact absurd q (hd o vs n e)
    · exact k a o c e) nk v x
theorem cr_dict (hc : X.calm = true) (hu : X.A.units + 64 < cLine) : CallR X (.type "dict") (rDict X) := by
  intro pins s σ H vs us Q I r h
  obtain ⟨ρ, hp, n, a, ys, ps, kvs, hh, e1, rfl, el, ep, ea, hz, q⟩ := h
  rw [Vals.ref1 r]
  obtain ⟨ws, sq, rs⟩ := lsOf_sq hh e1 el
  obtain ⟨its, rv, hpl, hz2⟩ := I.list sq
  obtain ⟨l, hl1, hl2, hl3⟩ := pairs_at I rs rv ep
  let Ts : Nat → Addr := fun j => ((l[j]?).getD default).1
  let pv : List (Value × Value) := l.map (·.2)
  have hpv : pv.length = ps.length := by simp [pv, hl2]
  obtain ⟨oL, nL, hoL, hcL, hdL, hdatL⟩ := hpl
  have ok : PlainSeq "list" s.heap a its.toArray ∧ PairItems s.heap its.toArray Ts pv := by
    refine ⟨⟨oL, nL, hoL, hcL, hdL, hdatL⟩, by simp [hpv, hl1, hl2], fun j k v hj => ?_⟩
    simp only [pv, List.getElem?_map, Option.map_eq_some_iff] at hj
    obtain ⟨q0, hq0, hq1⟩ := hj
    have hps : ∃ p, ps[j]? = some p := ⟨ps[j]'(by rw [← hl2]; exact (List.getElem?_eq_some_iff.mp hq0).1), List.getElem?_eq_getElem _⟩
    obtain ⟨p, hp0⟩ := hps
    obtain ⟨t1, _⟩ := hl3 j q0 p hq0 hp0
    obtain ⟨T, k0, v0⟩ := q0
    simp only [Prod.mk.injEq] at hq1
    obtain ⟨rfl, rfl⟩ := hq1
    refine ⟨?_, .inl ?_⟩
    · rw [hl1]
      simp [Ts, hq0]
    · simp only [Ts, hq0, Option.getD_some]
      exact t1
  have hu2 : X.A.in1.in1.units + 9 < cLine := by show X.A.units + 1 + 1 + 9 < cLine; omega
  have low : (s.heap.objs.size == sysModules) = false := beq_eq_false_iff_ne.mpr (Ne.symm (Nat.ne_of_lt I.big))
  refine call_dict_arg (PairArg.list a its.toArray Ts pv) ok fun s₁ hs₁ hdf ok₁ => ?_
  subst hs₁
  let Tab : Nat → Heap → Prop := fun i h => (∀ b o, b ≠ s.heap.objs.size → s.heap.get? b = some o → h.get? b = some o) ∧ ∃ m es o xs e, putAll [] (ps.take i) = some m ∧ KVs X.K X.w ρ H m es ∧ (m.map fun p => toKey p.1).Nodup ∧ h.get? s.heap.objs.size = some o ∧ o.ExactDict ∧ o.data = .dict xs e ∧ Paired EntOk es xs.toList
  have hnew : ∀ o vs (n : Nat), s.heap.get? s.heap.objs.size = some o → o.data ≠ .seq vs n := fun o vs n e => absurd (Heap.lt_size e) (Nat.lt_irrefl _)
  have dx : ∀ i (s1 : Shared) m es o xs e, (∀ b o, b ≠ s.heap.objs.size → s.heap.get? b = some o → s1.heap.get? b = some o) → putAll [] (ps.take i) = some m → KVs X.K X.w ρ H m es → (m.map fun p => toKey p.1).Nodup → s1.heap.get? s.heap.objs.size = some o → o.ExactDict → o.data = .dict xs e → Paired EntOk es xs.toList →
      ∃ ks, DX X s1 s.heap.objs.size es ks o xs e ∧ m.map (fun p => toKey p.1) = ks.map some := by
    intro i s1 m es o xs e hk hm hkv hnd g1 g2 g3 g4
    obtain ⟨ks, k1, k2⟩ := keysV_of hkv
    have hlen : es.length ≤ sizeLine := by
      rw [← hkv.length]
      have := putAll_len hm
      rw [List.length_take] at this
      simp at this
      omega
    refine ⟨ks, ⟨low, hlen, g1, g2, g3, g4, ⟨?_, nodup_some (by rw [← k2]; exact hnd), fun j y hy => ?_⟩⟩, k2⟩
    · have := Paired.length g4
      rw [keysV_len k1, this, Array.length_toList]
    · obtain ⟨x, ex, h7, h8, h9⟩ := paired_get g4 j y (by simpa using hy)
      obtain ⟨k', e1, e2, e3, e4⟩ := keysV_get k1 j x ex
      exact ⟨k', e1, dx_keep hk hnew (nest_of I k' _ _ e2 h8), by rw [← h7, e3], e4⟩
  refine updateFrom_arg (A := X.A.in1) (Tab := Tab) (d := s.heap.objs.size) (PairArg.list a its.toArray Ts pv) .none (I.ok.hd hc) ok₁ hdf ?_ ?_ ?_ ?_ ?_
  · refine ⟨fun b o _ e => Heap.get?_push_of_some _ e, [], [], _, #[], 0, ?_, .nil, List.nodup_nil, Heap.get?_push_size _ rfl, ⟨rfl, rfl, rfl⟩, rfl, .nil⟩
    simp [putAll]
  · intro i h tb
    obtain ⟨_, m, es, o, xs, e, _, _, _, g1, _⟩ := tb
    exact Heap.lt_size g1
  · intro i h h' wr' hd hw tb hk
    obtain ⟨t0, m, es, o, xs, e, t1, t2, t3, g1, g2, g3, g4⟩ := tb
    refine ⟨fun b o hb e => hk b o (fun hm => ?_) (t0 b o hb e), m, es, o, xs, e, t1, t2, t3, hk _ _ hd g1, g2, g3, g4⟩
    rcases hw b hm with q1 | q1
    · cases q1
    · have := Heap.get?_push_of_some { cls := .type "dict", data := .dict #[] } e
      rw [show (s.heap.push _).get? b = none from q1] at this
      cases this
  · intro i k v s' Q' E' hi hrel tb _ hQ
    obtain ⟨t0, m, es, o, xs, e, t1, t2, t3, g1, g2, g3, g4⟩ := tb
    obtain ⟨kss, dd, hks⟩ := dx i s' m es o xs e t0 t1 t2 t3 g1 g2 g3 g4
    have hj : pv[i]? = some (k, v) := hrel
    simp only [pv, List.getElem?_map, Option.map_eq_some_iff] at hj
    obtain ⟨q0, hq0, hq1⟩ := hj
    obtain ⟨p, hp0⟩ : ∃ p, ps[i]? = some p := ⟨ps[i]'(by rw [← hl2]; exact (List.getElem?_eq_some_iff.mp hq0).1), List.getElem?_eq_getElem _⟩
    obtain ⟨_, ⟨uk, vk, rk⟩, ⟨uv, vv, rvv⟩⟩ := hl3 i q0 p hq0 hp0
    rw [hq1] at vk vv
    obtain ⟨nk, k1, k2⟩ := putAll_step ea t1 hp0
    obtain ⟨k3, k4⟩ := keyOf_some k1
    have kk : NestedIs s'.heap nk k := dx_keep t0 hnew (nest_of I nk uk _ (nv_of p.1 uk nk rk k3) vk)
    have fin : ∀ h' (sb : Heap.SameBut s.heap.objs.size s'.heap h'), ∀ b o, b ≠ s.heap.objs.size → s.heap.get? b = some o → h'.get? b = some o := fun h' sb b o hb e => (sb.2 b hb).trans (t0 b o hb e)
    refine dictSet_any (X := X) (A := X.A.in1.in1) dd hu2 kk k4 (fun hn h' o' sb hg hx hd => ?_) fun j hj h' o' sb hg hx hd => ?_
    · have hn' : some nk ∉ m.map (fun p => toKey p.1) := by rw [← key_mem hks]; exact hn
      exact hQ h' _ ⟨fin h' sb, _, _, o', _, _, k2, kvs_put0 k3 k4 rk rvv t2 hn', dput_nodup k3 t3, hg, hx, hd, ents_push g4 vk vv⟩ sb
    · have hj' : (m.map fun p => toKey p.1)[j]? = some (some nk) := by rw [hks, List.getElem?_map, hj]; rfl
      exact hQ h' _ ⟨fin h' sb, _, _, o', _, _, k2, kvs_put1 rvv t2 t3 hj', dput_nodup k3 t3, hg, hx, hd, ents_mod vv j g4⟩ sb
  · intro h' tk tb hk
    obtain ⟨t0, m, es, o, xs, e, t1, t2, t3, g1, g2, g3, g4⟩ := tb
    have : ps.take pv.length = ps := by rw [hpv, List.take_length]
    rw [this, ea] at t1
    cases t1
    refine ⟨rfl, .ref s.heap.objs.size, upd H s.heap.objs.size (.ext (DctP s.heap.objs.size es)), I.laid (t' := tk) (fun b u e => t0 b u (Nat.ne_of_lt (Heap.lt_size e)) e) (Nat.le_refl _) ?_, rfl, q es _ t2 t3 (I.hok.fresh (Nat.le_refl _))⟩
    have hlen : es.length ≤ sizeLine := by
      rw [← t2.length]
      have := putAll_len ea
      simp at this
      omega
    refine ⟨⟨low, hlen, o, xs, e, g1, g2, g3, g4⟩, ⟨o, g1⟩, fun h1 h2 p k => ?_⟩
    obtain ⟨p1, p2, o3, x3, p3, f1, f2, f3, f4⟩ := p
    exact ⟨p1, p2, o3, x3, p3, k _ f1, f2, f3, f4⟩
theorem s_dict : SndN X.K X.w (rDict X) gDict := by
  intro ρ H hp xs d us hp' Q h rs e q
  unfold gDict at e
  split at e
  · rename_i n
    split at e
    · rename_i ys ey
      split at e
      · rename_i ps eps
        split at e
        · rename_i kvs ek
          split at e
          · rename_i hz
            cases e
            cases rs with
            | cons r t =>
              cases t
              cases r with
              | @ref _ p f1 =>
                refine ⟨ρ, hp, n, p, ys, ps, kvs, h, f1, rfl, ey, eps, ek, hz, fun es p2 hkv hnd hn => ?_⟩
                obtain ⟨q1, q2⟩ := newDct h hn hkv hnd
                exact q _ _ _ (Le.new _ hn _) q1 q2
          · cases e
        · cases e
      · cases e
    · cases e
  · cases e
end
end DL
set_option Elab.async false
set_option linter.all false
set_option maxRecDepth 100000
set_option maxHeartbeats 4000000
namespace DL
open PySem PySem.Spec PyProof.Rows L2
theorem u10 {k : Nat} {A : Around} (r : Room k A) : A.units + 10 < cLine := by have := r.un; omega
theorem u65 {k : Nat} {A : Around} (r : Room k A) : A.units + 65 < cLine := by have := r.un; omega
section
variable {X : Cx} {pos : Pos}
theorem d_par3 (i j l : Nat) {x y z : Str} {a b c : Expr} {f : AF} {px py pz pt : Pos} {kt k2 pt2} (hc : X.calm = true) (hN : X.N.Nodup) (ha : PA X [a, b, c] (tA X.K X.w f)) (hi : X.N[i]? = some x := by rfl) (hj : X.N[j]? = some y := by rfl) (hl : X.N[l]? = some z := by rfl) (hij : i ≠ j := by decide) (hil : i ≠ l := by decide) (hjl : j ≠ l := by decide)
    (hx : X.env.scope.names.lookup x = some .local := by rfl) (hy : X.env.scope.names.lookup y = some .local := by rfl) (hz : X.env.scope.names.lookup z = some .local := by rfl)
    (hw : swappedStores [.Tuple [.Name x px, .Name y py, .Name z pz] kt pt] (.Tuple [a, b, c] k2 pt2) X.env = pure (some [x, y, z]) := by rfl)
    (hs : swapsWithSole [.Tuple [.Name x px, .Name y py, .Name z pz] kt pt] (.Tuple [a, b, c] k2 pt2) pos.line X.env = pure false := by rfl) :
    PS X (.Assign [.Tuple [.Name x px, .Name y py, .Name z pz] kt pt] (.Tuple [a, b, c] k2 pt2) pos) (tS X.K X.w (sPar [i, j, l] f)) := by
  refine psW (ps_par3 hc hN hi hj hl hij hil hjl hx hy hz ha hw hs) fun D σ H h => ?_
  obtain ⟨ρ, env, hp, at', q⟩ := tS_iff.mp h
  obtain ⟨ds, hp1, e1, q⟩ := q.so
  split at q
  · rename_i hl
    refine ⟨ρ, env, hp, ds, hp1, at', e1, fun ρ1 H1 vs l1 h1 r1 => ?_⟩
    match ds, vs, hl, r1, q with
    | [d1, d2, d3], [v1, v2, v3], _, .cons r1 (.cons r2 (.cons r3 .nil)), q =>
      exact ⟨v1, v2, v3, rfl, q ρ1 H1 _ l1 ⟨h1, (((at'.er.up l1).set r1).set r2).set r3⟩⟩
  · exact q.elim
/-- a < b < c -/
def fChain (g g' : Op2) (fa fb fc : EF) : EF := fun env hp => (fa env hp).bind fun x hp1 => (fb env hp1).bind fun y hp2 => (g x y hp2).bind fun z hp3 => match z with
  | .bl true => (fc env hp3).bind fun w hp4 => g' y w hp4
  | .bl false => .ok (.bl false) hp3
  | _ => .fail
theorem chainI {r r' : R2} {g g' : Op2} {fa fb fc : EF} (hs : Snd2 X.K X.w r g) (hs' : Snd2 X.K X.w r' g') {σ : L2.St} {H : Hp} {Q : VK} (h : tE X.K X.w (fChain g g' fa fb fc) σ H Q) : tChain r r' (tE X.K X.w fa) (tE X.K X.w fb) (tE X.K X.w fc) σ H Q := by
  obtain ⟨ρ, env, hp, d, hp', a, e, q⟩ := h
  obtain ⟨x, hp1, e1, e2⟩ := Out.bind_ok e
  obtain ⟨y, hp2, e3, e4⟩ := Out.bind_ok e2
  obtain ⟨z, hp3, e5, e6⟩ := Out.bind_ok e4
  refine ⟨ρ, env, hp, x, hp1, a, e1, fun ρ1 H1 u l1 h1 r1 => ⟨ρ1, env, hp1, y, hp2, a.up l1 h1, e3, fun ρ2 H2 v l2 h2 r2 => ?_⟩⟩
  refine hs ρ2 H2 hp2 x y z u v hp3 _ h2 (r1.up l2) r2 e5 fun ρ3 H3 w l3 h3 r3 => ?_
  cases z with
  | bl k =>
    cases r3
    refine ⟨k, rfl, ?_⟩
    cases k with
    | true =>
      obtain ⟨c, hp4, e7, e8⟩ := Out.bind_ok e6
      refine ⟨ρ3, env, hp3, c, hp4, a.up ((l1.trans l2).trans l3) h3, e7, fun ρ4 H4 w l4 h4 r4 => ?_⟩
      exact hs' ρ4 H4 hp4 y c d v w hp' Q h4 ((r2.up l3).up l4) r4 e8 fun ρ5 H5 t l5 h5 r5 => q ρ5 H5 t ((((l1.trans l2).trans l3).trans l4).trans l5) h5 r5
    | false =>
      cases e6
      exact q ρ3 H3 _ ((l1.trans l2).trans l3) h3 (.bl false)
  | _ => cases e6
theorem d_chain {op op' : CmpOp} {r r' : R2} {g g' : Op2} {fa fb fc : EF} {a b c : Expr} (ho : OpR X (compareOp op) r) (hs : Snd2 X.K X.w r g) (ho' : OpR X (compareOp op') r') (hs' : Snd2 X.K X.w r' g') (ha : PE X a (tE X.K X.w fa)) (hb : PE X b (tE X.K X.w fb)) (hc : PE X c (tE X.K X.w fc))
    (hm : lastMarks [op, op'] [b, c] = false := by with_unfolding_all rfl) : PE X (.Compare a [op, op'] [b, c] pos) (tE X.K X.w (fChain g g' fa fb fc)) :=
  peW (pe_chain ho ho' ha hb hc hm) fun _ _ _ h => chainI hs hs' h
theorem d_tchain {op op' : CmpOp} {r r' : R2} {g g' : Op2} {fa fb fc : EF} {a b c : Expr} (ho : OpR X (compareOp op) r) (hs : Snd2 X.K X.w r g) (ho' : OpR X (compareOp op') r') (hs' : Snd2 X.K X.w r' g') (ha : PE X a (tE X.K X.w fa)) (hb : PE X b (tE X.K X.w fb)) (hc : PE X c (tE X.K X.w fc))
    (hm : lastMarks [op, op'] [b, c] = false := by with_unfolding_all rfl) : PT X (.Compare a [op, op'] [b, c] pos) (tT X.K X.w (tVal (fChain g g' fa fb fc))) := by
  refine ptW (pt_chain ho ho' ha hb hc hm) fun σ H Q h => ?_
  obtain ⟨ρ, env, hp, d, hp', at', e, q⟩ := h
  obtain ⟨x, hp1, e1, e2⟩ := Out.bind_ok e
  refine chainI hs hs' ⟨ρ, env, hp, x, hp1, at', e1, fun ρ1 H1 v l h1 r1 => ?_⟩
  cases x with
  | bl k => cases e2; cases r1; exact ⟨_, rfl, q ρ1 H1 l h1⟩
  | _ => cases e2
end

/-- a def that is not called any more -/
theorem ok_fail {P : Program} {w : World} {K : PySem.W.Frag} {mg : Str → Option Value} {base : Heap} {f : Addr} {fd : FuncData} {ps : List Str} {k : Nat} : FnOk P w K mg base CX0 k f fd ps (spD K w ps.length (fun _ _ => .fail)) := by
  have no : ∀ vs H Q E, ¬ spD K w ps.length (fun _ _ => .fail) vs H Q E := fun vs H Q E h => by
    obtain ⟨_, ρ, hp, ds, d, hp', _, _, e, _⟩ := h
    cases e
  exact ⟨fun vs H Q E h => absurd h (no vs H Q E), fun A outer s H args us vs Q E _ _ _ _ h => absurd h (no vs H Q E)⟩
theorem calG {P : Program} {w : World} {K : PySem.W.Frag} {mg : Str → Option Value} {base : Heap} {k np : Nat} {x : Str} {f : Addr} {fd : FuncData} {ps : List Str} {G : OpN} (F : FnOk P w K mg base CX0 k f fd ps (spD K w np G)) (hl : ∀ xs hp d hp', G xs hp = .ok d hp' → xs.length = np) (hm : mg x = some (.ref f)) (hk : PySem.W.keepIn K (.ref f) = true) (hb : Binds K fd ps []) : CalD P w K mg base k x G :=
  ⟨f, fd, ps, [], [], [], np, _, F, hm, hk, hb, .nil, fun _ _ => .nil, fun xs hp d hp' e => by rw [List.append_nil]; exact ⟨hl xs hp d hp' e, e⟩⟩
def tIfF (fc fa fb : BF) : BF := fun env hp => (fc env hp).bind fun k hp1 => if k = true then fa env hp1 else fb env hp1
/-- a recursive def: so many calls deep -/
def recD (np n : Nat) (b : OpN → SF) : Nat → OpN
  | 0 => fun _ _ => .fail
  | m + 1 => runDef np n (b (recD np n b m))
theorem recD_len {np n : Nat} {b : OpN → SF} : ∀ (m : Nat) (xs : List D) (hp : Ht) (d : D) (hp' : Ht), recD np n b m xs hp = .ok d hp' → xs.length = np
  | 0, _, _, _, _, h => by cases h
  | _ + 1, _, _, _, _, h => runDef_len h
/-- the script -/
theorem spD_start {K : PySem.W.Frag} {w : World} {H : Hp} {a : Addr} {ns : List Int} {G : OpN} {E : XK} (hS : SqL K H a (ns.map V.int)) (h : ∀ o : O, (o = .lst (ns.map D.int) ∨ o = .fro (ns.map D.int)) → ∃ hp', G [.ref 0] [o] = .ok (.bl true) hp') :
    spD K w 1 G [.ref a] H (fun v _ => v = .bl true) E := by
  have go : ∀ o : O, (o = .lst (ns.map D.int) ∨ o = .fro (ns.map D.int)) → OR K w [a] H o a → spD K w 1 G [.ref a] H (fun v _ => v = .bl true) E := by
    intro o ho hor
    obtain ⟨hp', e⟩ := h o ho
    have z : ∀ {n : Nat} {b : Addr}, ([a] : List Addr)[n]? = some b → n = 0 ∧ b = a := by
      intro n b e
      cases n with
      | zero => simp at e; exact ⟨rfl, e.symm⟩
      | succ n => simp at e
    refine ⟨rfl, [a], [o], [.ref 0], .bl true, hp', ⟨rfl, fun n m b x y e1 e2 _ _ _ _ => (z e1).1.trans (z e2).1.symm, fun n b x e1 e2 => ?_⟩, .cons (.ref rfl) .nil, e, fun ρ' H' v _ _ r => by cases r; rfl⟩
    obtain ⟨rfl, rfl⟩ := z e1
    simp at e2
    subst e2
    exact hor
  rcases hS with (hS | ⟨o, hS⟩) | hS
  · exact go _ (.inl rfl) ⟨_, hS, Rs.ints ns⟩
  · exact go _ (.inr rfl) ⟨_, .inl ⟨o, hS⟩, Rs.ints ns⟩
  · exact go _ (.inr rfl) ⟨_, .inr hS, Rs.ints ns⟩

/-! ### calls with keywords -/
def pick {α : Type} (is : List Nat) (zs : List α) : List α := is.filterMap fun i => zs[i]?
def kwG {α : Type} (np nk : Nat) (is : List Nat) (xs zs : List α) : List α := if xs.length = np ∧ zs.length = nk then xs ++ pick is zs else []
theorem vals_at : ∀ {vs : List V} {us : List Value} (i : Nat), Vals vs us → (vs[i]? = none ∧ us[i]? = none) ∨ ∃ v u, vs[i]? = some v ∧ us[i]? = some u ∧ RelV v u
  | _, _, _, .nil => .inl (by simp)
  | _, _, 0, .cons r _ => .inr ⟨_, _, rfl, rfl, r⟩
  | _, _, i + 1, .cons _ t => by simpa using vals_at i t
theorem rs_at {K : PySem.W.Frag} {ρ : List Addr} {H : Hp} : ∀ {vs : List D} {us : List V} (i : Nat), Rs K ρ H vs us → (vs[i]? = none ∧ us[i]? = none) ∨ ∃ v u, vs[i]? = some v ∧ us[i]? = some u ∧ R K ρ H v u
  | _, _, _, .nil => .inl (by simp)
  | _, _, 0, .cons r _ => .inr ⟨_, _, rfl, rfl, r⟩
  | _, _, i + 1, .cons _ t => by simpa using rs_at i t
theorem pick_vals {vs : List V} {us : List Value} (h : Vals vs us) : ∀ is : List Nat, Vals (pick is vs) (pick is us)
  | [] => .nil
  | i :: is => by
    have ih := pick_vals h is
    unfold pick at ih ⊢
    rcases vals_at i h with ⟨e1, e2⟩ | ⟨v, u, e1, e2, r⟩
    · rw [List.filterMap_cons_none e1, List.filterMap_cons_none e2]; exact ih
    · rw [List.filterMap_cons_some e1, List.filterMap_cons_some e2]; exact .cons r ih
theorem pick_rs {K : PySem.W.Frag} {ρ : List Addr} {H : Hp} {vs : List D} {us : List V} (h : Rs K ρ H vs us) : ∀ is : List Nat, Rs K ρ H (pick is vs) (pick is us)
  | [] => .nil
  | i :: is => by
    have ih := pick_rs h is
    unfold pick at ih ⊢
    rcases rs_at i h with ⟨e1, e2⟩ | ⟨v, u, e1, e2, r⟩
    · rw [List.filterMap_cons_none e1, List.filterMap_cons_none e2]; exact ih
    · rw [List.filterMap_cons_some e1, List.filterMap_cons_some e2]; exact .cons r ih
theorem kwG_vals {np nk : Nat} {is : List Nat} {vs zs : List V} {us ws : List Value} (h : Vals vs us) (k : Vals zs ws) : Vals (kwG np nk is vs zs) (kwG np nk is us ws) := by
  unfold kwG
  rw [h.length, k.length]
  split
  · exact h.append (pick_vals k is)
  · exact .nil
theorem kwG_rs {K : PySem.W.Frag} {ρ : List Addr} {H : Hp} {np nk : Nat} {is : List Nat} {vs zs : List D} {us ws : List V} (h : Rs K ρ H vs us) (k : Rs K ρ H zs ws) : Rs K ρ H (kwG np nk is vs zs) (kwG np nk is us ws) := by
  unfold kwG
  rw [h.length, k.length]
  split
  · exact h.append (pick_rs k is)
  · exact .nil
theorem calK_of {P : Program} {w : World} {K : PySem.W.Frag} {mg : Str → Option Value} {base : Heap} {k np n nk : Nat} {is : List Nat} {x : Str} {f : Addr} {fd : FuncData} {ps ks : List Str} {G : OpN} (F : FnOk P w K mg base CX0 k f fd ps (spD K w np G)) (hl : ∀ xs hp d hp', G xs hp = .ok d hp' → xs.length = np)
    (hm : mg x = some (.ref f)) (hk : PySem.W.keepIn K (.ref f) = true) (hne : 0 < ps.length) (hb : ∀ (s : Shared) (us ws : List Value), us.length = n → ws.length = nk → (kwG n nk is us ws).length = ps.length → BindsTo s fd ⟨us, ks.zip ws⟩ (ps.zip (kwG n nk is us ws))) :
    CalK P w K mg base k x ks (kwG n nk is) G := by
  refine ⟨f, fd, ps, np, kwG n nk is, kwG n nk is, F, hm, hk, ⟨fun s us ws _ h => ?_, fun a b => kwG_vals a b⟩, fun ρ H xs us zs ws a b => kwG_rs a b, hl⟩
  by_cases c : us.length = n ∧ ws.length = nk
  · exact hb s us ws c.1 c.2 h
  · unfold kwG at h
    rw [if_neg c] at h
    simp at h
    omega
end DL
set_option Elab.async false
set_option linter.all false
set_option maxRecDepth 100000
namespace DL
open PySem PySem.Spec PyProof.Rows L2
/-! ### the data functions, step by step: for simp -/
section
variable {env : En} {hp : Ht}
@[simp] theorem fC_e {d : D} : fC d env hp = .ok d hp := rfl
theorem fVar_s {i : Nat} {d : D} (h : env[i]? = some (some d)) : fVar i env hp = .ok d hp := by unfold fVar; rw [h]
@[simp] theorem fVar_0 {d : D} {r : En} : fVar 0 (some d :: r) hp = .ok d hp := rfl
@[simp] theorem fVar_1 {a : Option D} {d : D} {r : En} : fVar 1 (a :: some d :: r) hp = .ok d hp := rfl
@[simp] theorem fVar_2 {a b : Option D} {d : D} {r : En} : fVar 2 (a :: b :: some d :: r) hp = .ok d hp := rfl
@[simp] theorem fVar_3 {a b c : Option D} {d : D} {r : En} : fVar 3 (a :: b :: c :: some d :: r) hp = .ok d hp := rfl
@[simp] theorem fVar_S {a b c e : Option D} {r : En} {i : Nat} : fVar (i + 4) (a :: b :: c :: e :: r) hp = fVar i r hp := rfl
@[simp] theorem fBin_e {g : Op2} {a b : EF} : fBin g a b env hp = (a env hp).bind fun x hp1 => (b env hp1).bind fun y hp2 => g x y hp2 := rfl
@[simp] theorem fUn_e {g : Op1} {a : EF} : fUn g a env hp = (a env hp).bind fun x hp1 => g x hp1 := rfl
@[simp] theorem fNil_e : fNil env hp = .ok [] hp := rfl
@[simp] theorem fCons_e {a : EF} {b : AF} : fCons a b env hp = (a env hp).bind fun x hp1 => (b env hp1).bind fun xs hp2 => .ok (x :: xs) hp2 := rfl
@[simp] theorem fTup_e {a : AF} : fTup a env hp = (a env hp).bind fun xs hp1 => if xs.length ≤ sizeLine then .ok (.tup xs) hp1 else .fail := rfl
@[simp] theorem fLst_e {a : AF} : fLst a env hp = (a env hp).bind fun xs hp1 => if xs.length ≤ sizeLine then .ok (.ref hp1.length) (hp1 ++ [.lst xs]) else .fail := rfl
@[simp] theorem fCall_e {g : OpN} {a : AF} : fCall g a env hp = (a env hp).bind g := rfl
@[simp] theorem fIf_e {c : BF} {a b : EF} : fIf c a b env hp = (c env hp).bind fun k hp1 => if k = true then a env hp1 else b env hp1 := rfl
@[simp] theorem tAndF_e {a b : BF} : tAndF a b env hp = (a env hp).bind fun k hp1 => if k = true then b env hp1 else .ok false hp1 := rfl
@[simp] theorem tOrF_e {a b : BF} : tOrF a b env hp = (a env hp).bind fun k hp1 => if k = true then .ok true hp1 else b env hp1 := rfl
@[simp] theorem tNotF_e {a : BF} : tNotF a env hp = (a env hp).bind fun k hp1 => .ok (!k) hp1 := rfl
@[simp] theorem tIfF_e {c a b : BF} : tIfF c a b env hp = (c env hp).bind fun k hp1 => if k = true then a env hp1 else b env hp1 := rfl
@[simp] theorem tTru_e {a : EF} : tTru a env hp = (a env hp).bind fun x hp1 => match tru x hp1 with
  | some k => .ok k hp1
  | none => .fail := rfl
@[simp] theorem tVal_e {a : EF} : tVal a env hp = (a env hp).bind fun x hp1 => match x with
  | .bl k => .ok k hp1
  | _ => .fail := rfl
@[simp] theorem fAndT_e {a b : EF} : fAndT a b env hp = (a env hp).bind fun x hp1 => match tru x hp1 with
  | some k => if k = true then b env hp1 else .ok x hp1
  | none => .fail := rfl
@[simp] theorem fOrT_e {a b : EF} : fOrT a b env hp = (a env hp).bind fun x hp1 => match tru x hp1 with
  | some k => if k = true then .ok x hp1 else b env hp1
  | none => .fail := rfl
@[simp] theorem fNotT_e {a : EF} : fNotT a env hp = (a env hp).bind fun x hp1 => match tru x hp1 with
  | some k => .ok (.bl (!k)) hp1
  | none => .fail := rfl
@[simp] theorem fNoPart_e : fNoPart env hp = .ok none hp := rfl
@[simp] theorem fPart_e {f : EF} : fPart f env hp = (f env hp).bind fun x hp1 => match x with
  | .int i => .ok (some i) hp1
  | _ => .fail := rfl
@[simp] theorem fSl_e {f : EF} {l u : PF} : fSl f l u env hp = (f env hp).bind fun x hp1 => (l env hp1).bind fun lo hp2 => (u env hp2).bind fun hi hp3 => gSl x lo hi hp3 := rfl
@[simp] theorem fDct0_e : fDct0 env hp = .ok (.ref hp.length) (hp ++ [.dct []]) := rfl
@[simp] theorem fBM_e {ty : D → Ht → Bool} {g : OpM} {fo : EF} {fa : AF} : fBM ty g fo fa env hp = (fo env hp).bind fun x hp1 => if ty x hp1 = true then (fa env hp1).bind fun xs hp2 => g x xs hp2 else .fail := rfl
@[simp] theorem fRg1_e {f : EF} : fRg1 f env hp = (f env hp).bind fun d hp1 => match d with
  | .int n => .ok ((0 : Int), n) hp1
  | _ => .fail := rfl
@[simp] theorem fRg2_e {f g : EF} : fRg2 f g env hp = (f env hp).bind fun d hp1 => (g env hp1).bind fun e hp2 => match d, e with
  | .int i, .int j => .ok (i, j) hp2
  | _, _ => .fail := rfl
theorem fLstRg_e {f : RF} : fLstRg f env hp = (f env hp).bind fun r hp1 => if rgOk r.1 r.2 = true then .ok (.ref hp1.length) (hp1 ++ [.lst (rgD r.1 r.2)]) else .fail := rfl
theorem fTupRg_e {f : RF} : fTupRg f env hp = (f env hp).bind fun r hp1 => if rgOk r.1 r.2 = true then .ok (.tup (rgD r.1 r.2)) hp1 else .fail := rfl
@[simp] theorem fCallK_e {gD : List D → List D → List D} {F : OpN} {fa fk : AF} : fCallK gD F fa fk env hp = (fa env hp).bind fun xs hp1 => (fk env hp1).bind fun zs hp2 => F (gD xs zs) hp2 := rfl
/-- and on with b -/
def thnS (x : SO) (b : SF) : SO := match x with
  | .nx env1 hp1 => b env1 hp1
  | x => x
@[simp] theorem thn_nx {b : SF} : thnS (.nx env hp) b = b env hp := rfl
@[simp] theorem thn_rt {b : SF} {d : D} : thnS (.rt d hp) b = .rt d hp := rfl
@[simp] theorem thn_bk {b : SF} : thnS (.bk env hp) b = .bk env hp := rfl
@[simp] theorem thn_ct {b : SF} : thnS (.ct env hp) b = .ct env hp := rfl
@[simp] theorem thn_fail {b : SF} : thnS .fail b = .fail := rfl
@[simp] theorem sSeq_e {a b : SF} : sSeq a b env hp = thnS (a env hp) b := by
  unfold sSeq thnS
  cases a env hp <;> rfl
@[simp] theorem sPass_e : sPass env hp = .nx env hp := rfl
@[simp] theorem sBrk_e : sBrk env hp = .bk env hp := rfl
@[simp] theorem sCt_e : sCt env hp = .ct env hp := rfl
@[simp] theorem sExpr_e {f : EF} : sExpr f env hp = (f env hp).so fun _ hp1 => .nx env hp1 := rfl
@[simp] theorem sRet_e {f : EF} : sRet f env hp = (f env hp).so fun d hp1 => .rt d hp1 := rfl
@[simp] theorem sRetN_e : sRetN env hp = .rt .non hp := rfl
@[simp] theorem sIf_e {c : BF} {a b : SF} : sIf c a b env hp = (c env hp).so fun k hp1 => if k = true then a env hp1 else b env hp1 := rfl
@[simp] theorem sAsg_e {f : EF} {g : GF} : sAsg f g env hp = (f env hp).so fun d hp1 => (g d env hp1).so fun env1 hp2 => .nx env1 hp2 := rfl
@[simp] theorem gN_e {i : Nat} {d : D} : gN i d env hp = .ok (env.set i (some d)) hp := rfl
@[simp] theorem gNil'_e : gNil' [] env hp = .ok env hp := rfl
@[simp] theorem gCons'_e {g : GF} {r : GFs} {d : D} {ds : List D} : gCons' g r (d :: ds) env hp = (g d env hp).bind fun env1 hp1 => r ds env1 hp1 := rfl
@[simp] theorem gT_e {n : Nat} {r : GFs} {ds : List D} : gT n r (.tup ds) env hp = if ds.length = n then r ds env hp else .fail := rfl
@[simp] theorem gSub'_e {fo fi : EF} {st : D → D → D → Ht → Option Ht} {d : D} : gSub' fo fi st d env hp = (fo env hp).bind fun o hp1 => (fi env hp1).bind fun i hp2 => match st o i d hp2 with
  | some hp3 => .ok env hp3
  | none => .fail := rfl
@[simp] theorem sPar2_e {i j : Nat} {f : AF} : sPar [i, j] f env hp = (f env hp).so fun ds hp1 => match ds with
  | [a, b] => .nx ((env.set i (some a)).set j (some b)) hp1
  | _ => .fail := by
  unfold sPar
  cases f env hp with
  | ok ds hp1 =>
    simp only [Out.ok_so]
    match ds with
    | [] => rfl
    | [_] => rfl
    | [_, _] => rfl
    | _ :: _ :: _ :: r => simp
  | _ => rfl
@[simp] theorem sPar3_e {i j k : Nat} {f : AF} : sPar [i, j, k] f env hp = (f env hp).so fun ds hp1 => match ds with
  | [a, b, c] => .nx (((env.set i (some a)).set j (some b)).set k (some c)) hp1
  | _ => .fail := by
  unfold sPar
  cases f env hp with
  | ok ds hp1 =>
    simp only [Out.ok_so]
    match ds with
    | [] => rfl
    | [_] => rfl
    | [_, _] => rfl
    | [_, _, _] => rfl
    | _ :: _ :: _ :: _ :: r => simp
  | _ => rfl
theorem sFor_e {f : IF} {g : GF} {b : SF} : sFor f g b env hp = (f env hp).so fun src hp1 => forS g b src (lenS src hp1 + 1) 0 env hp1 := rfl
theorem fLc_e {f : IF} {g : GF} {t : BF} {e : EF} {vs : List Nat} : fLc f g t e vs env hp = (f env hp).bind fun src hp1 => lcS g t e src hp1.length (wipeD env vs) (lenS src hp1 + 1) 0 (hp1 ++ [.lst []]) := rfl
@[simp] theorem tYesF_e : tYesF env hp = .ok true hp := rfl
@[simp] theorem iSrc_e {f : EF} : iSrc f env hp = (f env hp).bind fun d hp1 => match d with
  | .tup ds => .ok (.tup ds) hp1
  | .ref n => if (lsOf hp1 n).isSome then .ok (.lst n) hp1 else .fail
  | _ => .fail := rfl
theorem range1_s {f : AF} {n : Nat} {hp1 : Ht} (h : f env hp = .ok [.int (n : Int)] hp1) (hn : n ≤ 1000000000) : iRange1 f env hp = .ok (.rng 0 n) hp1 := by
  unfold iRange1
  rw [h, Out.ok_bind]
  show (if _ then _ else _) = _
  rw [if_pos (Sm.of (by omega)), Int.toNat_natCast]
theorem sFor_range {f : AF} {g : GF} {b : SF} {n : Nat} {hp1 : Ht} (h : f env hp = .ok [.int (n : Int)] hp1) (hn : n ≤ 1000000000) : sFor (iRange1 f) g b env hp = forS g b (.rng 0 n) (n + 1) 0 env hp1 := by
  unfold sFor
  rw [range1_s h hn]
  rfl
theorem fLc_range {f : AF} {g : GF} {t : BF} {e : EF} {vs : List Nat} {n : Nat} {hp1 : Ht} (h : f env hp = .ok [.int (n : Int)] hp1) (hn : n ≤ 1000000000) : fLc (iRange1 f) g t e vs env hp = lcS g t e (.rng 0 n) hp1.length (wipeD env vs) (n + 1) 0 (hp1 ++ [.lst []]) := by
  unfold fLc
  rw [range1_s h hn]
  rfl
@[simp] theorem iEnumF_e {f : AF} : iEnumF f env hp = (f env hp).bind fun ds hp1 => match ds with
  | [.tup a] => .ok (.enum (.tup a)) hp1
  | [.ref n] => if (lsOf hp1 n).isSome then .ok (.enum (.lst n)) hp1 else .fail
  | _ => .fail := rfl
@[simp] theorem iZipF_e {f : AF} : iZipF f env hp = (f env hp).bind fun ds hp1 => match ds with
  | [.tup a, .tup b] => .ok (.zip (.tup a) (.tup b)) hp1
  | [.ref n, .ref m] => if (lsOf hp1 n).isSome ∧ (lsOf hp1 m).isSome then .ok (.zip (.lst n) (.lst m)) hp1 else .fail
  | _ => .fail := rfl
end
/-! operators on given kinds -/
section
variable {hp : Ht} {i j : Int} {x y : Str} {a b : Bool} {xs ys : List D}
@[simp] theorem gAdd_i : gAdd (.int i) (.int j) hp = .ok (.int (i + j)) hp := rfl
theorem gAdd_t (h : xs.length + ys.length ≤ sizeLine) : gAdd (.tup xs) (.tup ys) hp = .ok (.tup (xs ++ ys)) hp := by
  show (if _ then _ else _) = _
  rw [if_pos h]
@[simp] theorem gSub_i : gSub (.int i) (.int j) hp = .ok (.int (i - j)) hp := rfl
@[simp] theorem gNeg_i : gNeg (.int i) hp = .ok (.int (-i)) hp := rfl
theorem gMul_i (h : i.natAbs.log2 + j.natAbs.log2 < 1000000) : gMul (.int i) (.int j) hp = .ok (.int (i * j)) hp := by
  show (if _ then _ else _) = _
  rw [if_pos h]
theorem gMod_i (h : 0 < j) : gMod (.int i) (.int j) hp = .ok (.int (i % j)) hp := by
  show (if _ then _ else _) = _
  rw [if_pos h]
theorem gDiv_i (h : 0 < j) (h2 : j.natAbs.log2 < 9000) : gDiv (.int i) (.int j) hp = .ok (.int (i / j)) hp := by
  show (if _ then _ else _) = _
  rw [if_pos ⟨h, h2⟩]
@[simp] theorem gEq_i : gEq (.int i) (.int j) hp = .ok (.bl (decide (i = j))) hp := by
  unfold gEq eqB
  simp [scalD]
@[simp] theorem gNe_i : gNe (.int i) (.int j) hp = .ok (.bl (!decide (i = j))) hp := by
  unfold gNe eqB
  simp [scalD]
@[simp] theorem gEq_s : gEq (.str x) (.str y) hp = .ok (.bl (decide (x = y))) hp := by
  unfold gEq eqB
  simp [scalD]
@[simp] theorem gNe_s : gNe (.str x) (.str y) hp = .ok (.bl (!decide (x = y))) hp := by
  unfold gNe eqB
  simp [scalD]
@[simp] theorem gEq_b : gEq (.bl a) (.bl b) hp = .ok (.bl (decide (a = b))) hp := by
  unfold gEq eqB
  simp [scalD]
@[simp] theorem gLt_i : gLt (.int i) (.int j) hp = .ok (.bl (decide (i < j))) hp := rfl
@[simp] theorem gLe_i : gLe (.int i) (.int j) hp = .ok (.bl (decide (i ≤ j))) hp := rfl
@[simp] theorem gGt_i : gGt (.int i) (.int j) hp = .ok (.bl (decide (j < i))) hp := rfl
@[simp] theorem gGe_i : gGe (.int i) (.int j) hp = .ok (.bl (decide (j ≤ i))) hp := rfl
@[simp] theorem gIs_n {d : D} : gIs d .non hp = .ok (.bl (decide (d = .non))) hp := rfl
@[simp] theorem gIsNot_n {d : D} : gIsNot d .non hp = .ok (.bl (!decide (d = .non))) hp := rfl
@[simp] theorem gLen_t : gLen [.tup xs] hp = .ok (.int xs.length) hp := rfl
theorem gLen_r {n : Nat} (h : lsOf hp n = some xs) : gLen [.ref n] hp = .ok (.int xs.length) hp := by
  simp [gLen, lenD, h]
@[simp] theorem gAbs_i : gAbs [.int i] hp = .ok (.int (if i < 0 then -i else i)) hp := rfl
@[simp] theorem gInt_i : gInt [.int i] hp = .ok (.int i) hp := rfl
@[simp] theorem gMax2_i : gMax2 [.int i, .int j] hp = .ok (.int (if j > i then j else i)) hp := rfl
@[simp] theorem gMin2_i : gMin2 [.int i, .int j] hp = .ok (.int (if j < i then j else i)) hp := rfl
@[simp] theorem gTuple_t : gTuple [.tup xs] hp = .ok (.tup xs) hp := rfl
theorem gTuple_r {n : Nat} (h : lsOf hp n = some xs) : gTuple [.ref n] hp = .ok (.tup xs) hp := by
  simp [gTuple, h]
@[simp] theorem gList_t : gList [.tup xs] hp = .ok (.ref hp.length) (hp ++ [.lst xs]) := rfl
theorem gList_r {n : Nat} (h : lsOf hp n = some xs) : gList [.ref n] hp = .ok (.ref hp.length) (hp ++ [.lst xs]) := by
  simp [gList, h]
@[simp] theorem gSl_t {lo hi : Option Int} : gSl (.tup xs) lo hi hp = .ok (.tup (cutD xs lo hi)) hp := rfl
@[simp] theorem gIxD_t : gIxD (.tup xs) (.int i) hp = match atI xs i with
  | some d => .ok d hp
  | none => .fail := rfl
theorem gIxD_r {n : Nat} (h : lsOf hp n = some xs) : gIxD (.ref n) (.int i) hp = match atI xs i with
  | some d => .ok d hp
  | none => .fail := by
  have : dctOf hp n = none := by
    unfold lsOf at h
    unfold dctOf
    split at h <;> simp_all
  simp only [gIxD, this, gIx, h]
  all_goals (cases atI xs i <;> rfl)
theorem atI_nn {α : Type} {zs : List α} {v : α} (h0 : 0 ≤ i) (h : zs[i.toNat]? = some v) : atI zs i = some v := by
  have := atI_nat h
  rwa [Int.toNat_of_nonneg h0] at this
@[simp] theorem atI_0 {α : Type} {z : α} {zs : List α} : atI (z :: zs) 0 = some z := atI_nat (j := 0) rfl
@[simp] theorem atI_1 {α : Type} {z z1 : α} {zs : List α} : atI (z :: z1 :: zs) 1 = some z1 := atI_nat (j := 1) rfl
@[simp] theorem atI_2 {α : Type} {z z1 z2 : α} {zs : List α} : atI (z :: z1 :: z2 :: zs) 2 = some z2 := atI_nat (j := 2) rfl
@[simp] theorem atI_3 {α : Type} {z z1 z2 z3 : α} {zs : List α} : atI (z :: z1 :: z2 :: z3 :: zs) 3 = some z3 := atI_nat (j := 3) rfl
@[simp] theorem atI_4 {α : Type} {z z1 z2 z3 z4 : α} {zs : List α} : atI (z :: z1 :: z2 :: z3 :: z4 :: zs) 4 = some z4 := atI_nat (j := 4) rfl
@[simp] theorem atI_5 {α : Type} {z z1 z2 z3 z4 z5 : α} {zs : List α} : atI (z :: z1 :: z2 :: z3 :: z4 :: z5 :: zs) 5 = some z5 := atI_nat (j := 5) rfl
theorem cutD_lo {k : Nat} : cutD xs (some (k : Int)) none = xs.drop k := by
  unfold cutD
  rw [HT.sIx_nat, HT.sIx_none]
  by_cases h : k ≤ xs.length
  · rw [Nat.min_eq_left h, List.take_of_length_le (by simp)]
  · rw [Nat.min_eq_right (by omega), List.drop_eq_nil_of_le (Nat.le_refl _), List.drop_eq_nil_of_le (by omega)]; simp
theorem cutD_hi {k : Nat} : cutD xs none (some (k : Int)) = xs.take k := by
  unfold cutD
  rw [HT.sIx_nat, HT.sIx_none]
  simp only [List.drop_zero, Nat.sub_zero]
  by_cases h : k ≤ xs.length
  · rw [Nat.min_eq_left h]
  · rw [Nat.min_eq_right (by omega), List.take_of_length_le (Nat.le_refl _), List.take_of_length_le (by omega)]
end
@[simp] theorem sz_0 : 0 ≤ sizeLine := Nat.zero_le _
@[simp] theorem sz_1 : 1 ≤ sizeLine := by decide
@[simp] theorem sz_2 : 2 ≤ sizeLine := by decide
@[simp] theorem sz_3 : 3 ≤ sizeLine := by decide
@[simp] theorem sz_4 : 4 ≤ sizeLine := by decide
@[simp] theorem sz_5 : 5 ≤ sizeLine := by decide
@[simp] theorem sz_6 : 6 ≤ sizeLine := by decide
theorem szn {n : Nat} (h : n ≤ 1000000) : n ≤ sizeLine := by rw [sizeLine_eq]; omega
/-- the answer of a body -/
def ans (x : SO) : Out D := match x with
  | .rt d hp' => .ok d hp'
  | .nx _ hp' => .ok .non hp'
  | .exc x hp' => .exc x hp'
  | _ => .fail
@[simp] theorem ans_rt {d : D} {hp : Ht} : ans (.rt d hp) = .ok d hp := rfl
@[simp] theorem ans_nx {d : En} {hp : Ht} : ans (.nx d hp) = .ok .non hp := rfl
theorem runDef_e {np n : Nat} {b : SF} {ds : List D} {hp : Ht} : runDef np n b ds hp = if ds.length = np then ans (b (startD n ds) hp) else .fail := by
  unfold runDef ans
  cases b (startD n ds) hp <;> rfl
end DL
set_option Elab.async false
set_option linter.all false
set_option maxRecDepth 100000
set_option maxHeartbeats 1000000
namespace DL
open PySem PySem.Spec PyProof.Rows L2
/-! ### what is left alone -/
structure Ext (W : List Nat) (hp hp' : Ht) : Prop where
  le : hp.length ≤ hp'.length
  at_ : ∀ i, i < hp.length → i ∉ W → hp'[i]? = hp[i]?
theorem Ext.refl (W : List Nat) (hp : Ht) : Ext W hp hp := ⟨Nat.le_refl _, fun _ _ _ => rfl⟩
theorem Ext.trans {W : List Nat} {a b c : Ht} (h : Ext W a b) (k : Ext W b c) : Ext W a c := ⟨Nat.le_trans h.le k.le, fun i hi hw => (k.at_ i (Nat.lt_of_lt_of_le hi h.le) hw).trans (h.at_ i hi hw)⟩
theorem Ext.weak {W V : List Nat} {a b : Ht} (h : Ext W a b) (k : ∀ i ∈ W, i ∈ V) : Ext V a b := ⟨h.le, fun i hi hw => h.at_ i hi fun m => hw (k i m)⟩
theorem Ext.app (W : List Nat) (hp g : Ht) : Ext W hp (hp ++ g) := ⟨by simp, fun i hi _ => List.getElem?_append_left hi⟩
theorem Ext.set {W : List Nat} {n : Nat} (hp : Ht) (o : O) (h : n ∈ W) : Ext W hp (hp.set n o) := ⟨by simp, fun i hi hw => List.getElem?_set_ne (fun (e : n = i) => hw (e ▸ h))⟩
theorem Ext.some {W : List Nat} {hp hp' : Ht} {n : Nat} {o : O} (h : Ext W hp hp') (e : hp[n]? = some o) (hn : n ∉ W) : hp'[n]? = some o := by
  rw [h.at_ n (List.getElem?_eq_some_iff.mp e).1 hn, e]
/-- what came behind may be changed -/
theorem Ext.new {W : List Nat} {hp hp' : Ht} {n : Nat} {o : O} (h : Ext W hp hp') (hn : hp.length ≤ n) : Ext W hp (hp'.set n o) := ⟨by simpa using h.le, fun i hi hw => by
  rw [List.getElem?_set_ne (by omega)]
  exact h.at_ i hi hw⟩
theorem Ext.drop {W : List Nat} {hp hp' : Ht} {n : Nat} (h : Ext (n :: W) hp hp') (hn : hp.length ≤ n) : Ext W hp hp' := ⟨h.le, fun i hi hw => h.at_ i hi (by
  rw [List.mem_cons]
  rintro (e | e)
  · omega
  · exact hw e)⟩
/-- it comes out well -/
def Ok {α : Type} (x : Out α) (Q : α → Ht → Prop) : Prop := ∃ a hp, x = .ok a hp ∧ Q a hp
theorem Ok.bind {α β : Type} {x : Out α} {f : α → Ht → Out β} {Q : β → Ht → Prop} (h : Ok x fun a hp => Ok (f a hp) Q) : Ok (x.bind f) Q := by
  obtain ⟨a, hp, rfl, h⟩ := h
  exact h
theorem Ok.mono {α : Type} {x : Out α} {Q R : α → Ht → Prop} (h : Ok x Q) (k : ∀ a hp, Q a hp → R a hp) : Ok x R := by
  obtain ⟨a, hp, rfl, h⟩ := h
  exact ⟨a, hp, rfl, k a hp h⟩
theorem Ok.pure {α : Type} {a : α} {hp : Ht} {Q : α → Ht → Prop} (h : Q a hp) : Ok (.ok a hp) Q := ⟨a, hp, rfl, h⟩
/-- how a body ends: on to I, or with an answer that R holds of -/
def Res (I : En → Ht → Prop) (R : D → Ht → Prop) : SO → Prop
  | .nx e h => I e h
  | .ct e h => I e h
  | .rt d h => R d h
  | _ => False
def ResN (I : En → Ht → Prop) (R : D → Ht → Prop) : SO → Prop
  | .nx e h => I e h
  | .rt d h => R d h
  | _ => False
theorem ResN.thn {I J : En → Ht → Prop} {R : D → Ht → Prop} {x : SO} {b : SF} (h : ResN I R x) (k : ∀ e hp, I e hp → ResN J R (b e hp)) : ResN J R (thnS x b) := by
  cases x with
  | nx e hp => exact k e hp h
  | rt d hp => exact h
  | _ => exact h.elim
theorem ResN.ok {R : D → Ht → Prop} {x : SO} (h : ResN (fun _ _ => False) R x) : Ok (ans x) R := by
  cases x with
  | rt d hp => exact ⟨d, hp, rfl, h⟩
  | _ => exact h.elim
theorem ResN.mono {I J : En → Ht → Prop} {R S : D → Ht → Prop} {x : SO} (h : ResN I R x) (k : ∀ e hp, I e hp → J e hp) (l : ∀ d hp, R d hp → S d hp) : ResN J S x := by
  cases x with
  | nx e hp => exact k e hp h
  | rt d hp => exact l d hp h
  | _ => exact h.elim
theorem ResN.res {I : En → Ht → Prop} {R : D → Ht → Prop} {x : SO} (h : ResN I R x) : Res I R x := by
  cases x with
  | nx e hp => exact h
  | rt d hp => exact h
  | _ => exact h.elim
theorem for_inv {g : GF} {body : SF} {src : Src} {I : Nat → En → Ht → Prop} {R : D → Ht → Prop} {items : List D} (hs : ∀ i env hp, I i env hp → itemS src i hp = some items[i]?)
    (hb : ∀ i d env hp, items[i]? = some d → I i env hp → Res (I (i + 1)) R ((g d env hp).so body)) : ∀ (m i : Nat) (env : En) (hp : Ht), i + m = items.length + 1 → i ≤ items.length → I i env hp → ResN (I items.length) R (forS g body src m i env hp)
  | 0, i, _, _, h, h2, _ => by omega
  | m + 1, i, env, hp, h, h2, hI => by
    unfold forS
    rw [hs i env hp hI]
    cases e : items[i]? with
    | none =>
      have : items.length ≤ i := List.getElem?_eq_none_iff.mp e
      have e2 : i = items.length := by omega
      subst e2
      exact hI
    | some d =>
      have hlt := (List.getElem?_eq_some_iff.mp e).1
      have q := hb i d env hp e hI
      simp only
      cases eg : g d env hp with
      | ok env1 hp1 =>
        rw [eg] at q
        simp only [Out.ok_so] at q ⊢
        cases eb : body env1 hp1 with
        | nx env2 hp2 => rw [eb] at q; exact for_inv hs hb m (i + 1) env2 hp2 (by omega) (by omega) q
        | ct env2 hp2 => rw [eb] at q; exact for_inv hs hb m (i + 1) env2 hp2 (by omega) (by omega) q
        | rt d hp2 => rw [eb] at q; exact q
        | bk _ _ => rw [eb] at q; exact q.elim
        | exc _ _ => rw [eb] at q; exact q.elim
        | fail => rw [eb] at q; exact q.elim
      | exc _ _ => rw [eg] at q; exact q.elim
      | fail => rw [eg] at q; exact q.elim
/-- a comprehension -/
theorem lc_inv {g : GF} {t : BF} {e : EF} {src : Src} {n0 : Nat} {env : En} {I : Nat → List D → Ht → Prop} {items : List D} (hs : ∀ i acc hp, I i acc hp → itemS src i hp = some items[i]?) (hacc : ∀ i acc hp, I i acc hp → acc.length ≤ i)
    (hb : ∀ i d acc hp, items[i]? = some d → I i acc hp → Ok (g d env hp) fun env1 hp1 => Ok (t env1 hp1) fun k hp2 => if k = true then Ok (e env1 hp2) fun y hp3 => hp3[n0]? = some (.lst acc) ∧ I (i + 1) (acc ++ [y]) (hp3.set n0 (.lst (acc ++ [y]))) else I (i + 1) acc hp2)
    (hz : items.length ≤ 1000000) : ∀ (m i : Nat) (acc : List D) (hp : Ht), i + m = items.length + 1 → i ≤ items.length → I i acc hp → Ok (lcS g t e src n0 env m i hp) fun d hp' => d = .ref n0 ∧ ∃ acc', I items.length acc' hp'
  | 0, i, _, _, h, h2, _ => by omega
  | m + 1, i, acc, hp, h, h2, hI => by
    unfold lcS
    rw [hs i acc hp hI]
    cases ei : items[i]? with
    | none =>
      have : items.length ≤ i := List.getElem?_eq_none_iff.mp ei
      have e2 : i = items.length := by omega
      subst e2
      exact ⟨_, _, rfl, rfl, acc, hI⟩
    | some d =>
      have hlt := (List.getElem?_eq_some_iff.mp ei).1
      obtain ⟨env1, hp1, e1, k, hp2, e2, q⟩ := hb i d acc hp ei hI
      simp only [e1, Out.ok_bind, e2]
      cases k with
      | false =>
        simp only [Bool.false_eq_true, if_false] at q ⊢
        exact lc_inv hs hacc hb hz m (i + 1) acc hp2 (by omega) (by omega) q
      | true =>
        simp only [if_true] at q ⊢
        obtain ⟨y, hp3, e3, e4, q⟩ := q
        have hl : acc.length < sizeLine := by
          have := hacc i acc hp hI
          exact Nat.lt_of_lt_of_le (by omega : acc.length < 1000001) (by rw [sizeLine_eq]; omega)
        simp only [e3, Out.ok_bind, e4, if_pos hl]
        exact lc_inv hs hacc hb hz m (i + 1) (acc ++ [y]) _ (by omega) (by omega) q
theorem item_tup {ds : List D} {i : Nat} {hp : Ht} : itemS (.tup ds) i hp = some ds[i]? := rfl
theorem item_lst {n i : Nat} {hp : Ht} {ds : List D} (h : lsOf hp n = some ds) : itemS (.lst n) i hp = some ds[i]? := by
  simp [itemS, h]
def ranD (n : Nat) : List D := (List.range n).map fun i => .int (i : Nat)
theorem item_rng {n i : Nat} {hp : Ht} : itemS (.rng 0 n) i hp = some (ranD n)[i]? := by
  simp only [itemS, ranD, List.getElem?_map, Option.some.injEq]
  by_cases h : i < n
  · rw [if_pos h, List.getElem?_range h]
    simp
  · rw [if_neg h, List.getElem?_eq_none (by simp; omega)]
    rfl
theorem ranD_at {n i : Nat} {d : D} (h : (ranD n)[i]? = some d) : d = .int i ∧ i < n := by
  simp only [ranD, List.getElem?_map, Option.map_eq_some_iff] at h
  obtain ⟨j, e, rfl⟩ := h
  obtain ⟨h1, h2⟩ := List.getElem?_eq_some_iff.mp e
  simp at h1 h2
  subst h2
  exact ⟨rfl, h1⟩
theorem ranD_len (n : Nat) : (ranD n).length = n := by simp [ranD]
def enumD (ds : List D) : List D := ds.mapIdx fun i d => .tup [.int (i : Nat), d]
theorem item_enum {ds : List D} {i : Nat} {hp : Ht} : itemS (.enum (.tup ds)) i hp = some (enumD ds)[i]? := by
  simp only [itemS, enumD, List.getElem?_mapIdx]
  cases ds[i]? <;> rfl
theorem lsOf_lst {hp : Ht} {n : Nat} {ds : List D} (h : hp[n]? = some (.lst ds)) : lsOf hp n = some ds := by unfold lsOf; rw [h]
/-! ### the drawing box of the laws -/
structure Box (hp : Ht) (n : Nat) : Prop where
  ex : ∃ a b : Int, hp[n]? = some (.lst [.int a, .int b]) ∧ 0 ≤ a ∧ 0 ≤ b ∧ b ≤ 4294967296
theorem Box.ext {hp hp' : Ht} {n : Nat} {W : List Nat} (h : Box hp n) (e : Ext W hp hp') (hn : n ∉ W) : Box hp' n := by
  obtain ⟨a, b, e1, h2⟩ := h.ex
  exact ⟨a, b, e.some e1 hn, h2⟩
theorem log_le {i : Int} (h0 : 0 ≤ i) (h : i ≤ 1152921504606846976) : i.natAbs.log2 ≤ 60 := by
  have h1 : i.natAbs ≤ 2 ^ 60 := by omega
  rcases Nat.eq_zero_or_pos i.natAbs with e | e
  · rw [e]; decide
  · have : i.natAbs.log2 < 61 := (Nat.log2_lt (by omega)).mpr (by omega)
    omega
/-- a constant of a box -/
def Cst (c : Int) : Prop := 0 < c ∧ c ≤ 1099511627776
theorem mulC {c : Int} {i : Int} {hp : Ht} (h : Cst c) (h0 : 0 ≤ i) (h1 : i ≤ 1152921504606846976) : gMul (.int i) (.int c) hp = .ok (.int (i * c)) hp := by
  apply gMul_i
  have a := log_le h0 h1
  have b := log_le (i := c) (by have := h.1; omega) (by have := h.2; omega)
  omega
theorem modC {c : Int} {i : Int} {hp : Ht} (h : 0 < c) : gMod (.int i) (.int c) hp = .ok (.int (i % c)) hp := gMod_i h
theorem divC {c : Int} {i : Int} {hp : Ht} (h : Cst c) : gDiv (.int i) (.int c) hp = .ok (.int (i / c)) hp := by
  apply gDiv_i h.1
  have b := log_le (i := c) (by have := h.1; omega) (by have := h.2; omega)
  omega
def takeB (c1 c2 c3 c4 c5 c6 c7 c8 : Int) : SF := (sSeq (sIf (tVal (fBin gGt (fBin gIxD (fVar 0) (fC (.int 0))) (fC (.int 0)))) (sSeq (sAsg (fBin gMod (fCall gInt (fCons (fBin gIxD (fVar 0) (fC (.int 0))) fNil)) (fVar 1)) (gN 2)) (sSeq (sAsg (fBin gDiv (fBin gIxD (fVar 0) (fC (.int 0))) (fVar 1)) (gSub' (fVar 0) (fC (.int 0)) gPut)) (sRet (fVar 2)))) (fun env hp => .nx env hp)) (sSeq (sAsg (fBin gMod (fCall gInt (fCons (fBin gAdd (fBin gMul (fBin gIxD (fVar 0) (fC (.int 1))) (fC (.int c1))) (fC (.int c2))) fNil)) (fC (.int c3))) (gN 3)) (sSeq (sAsg (fBin gAdd (fBin gMod (fCall gInt (fCons (fBin gAdd (fBin gMul (fVar 3) (fC (.int c4))) (fC (.int c5))) fNil)) (fC (.int c6))) (fC (.int 1))) (gSub' (fVar 0) (fC (.int 1)) gPut)) (sRet (fBin gMod (fCall gInt (fCons (fBin gDiv (fBin gAdd (fBin gMul (fVar 3) (fC (.int c7))) (fBin gIxD (fVar 0) (fC (.int 1)))) (fC (.int c8))) fNil)) (fVar 1))))))
structure TakeC (c1 c2 c3 c4 c5 c6 c7 c8 : Int) : Prop where
  k1 : Cst c1
  k2 : Cst c2
  k3 : Cst c3 ∧ c3 ≤ 4294967296
  k4 : Cst c4
  k5 : Cst c5
  k6 : Cst c6 ∧ c6 + 1 ≤ 4294967296
  k7 : Cst c7
  k8 : Cst c8
/-- _law_take -/
def TakeS (F : OpN) : Prop := ∀ (hp : Ht) (n : Nat) (many : Nat), Box hp n → 1 ≤ many → many ≤ 1000000 → ∃ (r : Nat) (hp' : Ht), F [.ref n, .int (many : Int)] hp = .ok (.int (r : Int)) hp' ∧ r < many ∧ Box hp' n ∧ Ext [n] hp hp' ∧ hp'.length = hp.length
theorem gPut_l {hp : Ht} {n : Nat} {xs : List D} {v : D} {j : Nat} (h : hp[n]? = some (.lst xs)) (hj : j < xs.length) : gPut (.ref n) (.int (j : Int)) v hp = some (hp.set n (.lst (xs.set j v))) := by
  have e2 : dctOf hp n = none := by unfold dctOf; rw [h]
  unfold gPut
  simp only [e2]
  unfold gSet
  have : ixN xs.length (j : Int) = some j := by
    unfold ixN
    rw [if_pos (by omega), if_pos (by omega), Int.toNat_natCast]
  simp only [h, this]
theorem take_s {c1 c2 c3 c4 c5 c6 c7 c8 : Int} (C : TakeC c1 c2 c3 c4 c5 c6 c7 c8) : TakeS (runDef 2 4 (takeB c1 c2 c3 c4 c5 c6 c7 c8)) := by
  intro hp n many hb h1 h2
  obtain ⟨a, b, e, ha, hb0, hb1⟩ := hb.ex
  have hm : Cst (many : Int) := ⟨by omega, by omega⟩
  have el := lsOf_lst e
  have x0 := gIxD_r (i := 0) el
  have x1 := gIxD_r (i := 1) el
  have hlt := (List.getElem?_eq_some_iff.mp e).1
  rw [runDef_e]
  by_cases c : 0 < a
  · have p0 := gPut_l (v := .int (a / many)) (j := 0) e (by simp)
    refine ⟨(a % many).toNat, hp.set n (.lst [.int (a / many), .int b]), ?_, ?_, ⟨a / many, b, List.getElem?_set_self hlt, Int.ediv_nonneg ha (by omega), hb0, hb1⟩, Ext.set _ _ (by simp), by simp⟩
    · simp at p0
      have hmod := Int.emod_nonneg a (show (many : Int) ≠ 0 by omega)
      simp [startD, takeB, x0, c, modC hm.1, divC hm, p0, Int.toNat_of_nonneg hmod]
    · have q1 := Int.emod_nonneg a (show (many : Int) ≠ 0 by omega)
      have q2 := Int.emod_lt_of_pos a hm.1
      omega
  · have n1 : 0 ≤ b * c1 + c2 := by
      have := Int.mul_nonneg hb0 (Int.le_of_lt C.k1.1)
      have := C.k2.1
      omega
    have r0 := Int.emod_nonneg (b * c1 + c2) (show c3 ≠ 0 by have := C.k3.1.1; omega)
    have r1 := Int.emod_lt_of_pos (b * c1 + c2) C.k3.1.1
    have r2 := C.k3.2
    generalize hraw : (b * c1 + c2) % c3 = raw at r0 r1
    have s0 := Int.emod_nonneg (raw * c4 + c5) (show c6 ≠ 0 by have := C.k6.1.1; omega)
    have s1 := Int.emod_lt_of_pos (raw * c4 + c5) C.k6.1.1
    have s2 := C.k6.2
    generalize hb' : (raw * c4 + c5) % c6 = b' at s0 s1
    have p1 := gPut_l (v := .int (b' + 1)) (j := 1) e (by simp)
    have e' : (hp.set n (.lst [.int a, .int (b' + 1)]))[n]? = some (.lst [.int a, .int (b' + 1)]) := List.getElem?_set_self hlt
    have x2 := gIxD_r (i := 1) (lsOf_lst e')
    have t0 := Int.emod_nonneg ((raw * c7 + (b' + 1)) / c8) (show (many : Int) ≠ 0 by omega)
    have t1 := Int.emod_lt_of_pos ((raw * c7 + (b' + 1)) / c8) hm.1
    refine ⟨((raw * c7 + (b' + 1)) / c8 % many).toNat, hp.set n (.lst [.int a, .int (b' + 1)]), ?_, by omega, ⟨a, b' + 1, e', ha, by omega, by omega⟩, Ext.set _ _ (by simp), by simp⟩
    simp at p1
    have q1 : ∀ hp, gMul (.int b) (.int c1) hp = .ok (.int (b * c1)) hp := fun hp => mulC C.k1 hb0 (by omega)
    have q4 : ∀ hp, gMul (.int raw) (.int c4) hp = .ok (.int (raw * c4)) hp := fun hp => mulC C.k4 r0 (by omega)
    have q7 : ∀ hp, gMul (.int raw) (.int c7) hp = .ok (.int (raw * c7)) hp := fun hp => mulC C.k7 r0 (by omega)
    simp [startD, takeB, x0, x1, x2, c, q1, q4, q7, modC hm.1, modC C.k3.1.1, modC C.k6.1.1, divC C.k8, hraw, hb', p1, Int.toNat_of_nonneg t0]
end DL
set_option Elab.async false
set_option linter.all false
set_option maxRecDepth 100000
set_option maxHeartbeats 1000000
namespace DL
open PySem PySem.Spec PyProof.Rows L2
/-! ### _law_pick -/
def pickB (F : OpN) : SF := (sRet (fBin gIxD (fVar 1) (fCall F (fCons (fVar 0) (fCons (fCall gLen (fCons (fVar 1) fNil)) fNil)))))
def seqOf (hp : Ht) : D → Option (List D)
  | .tup xs => some xs
  | .ref n => lsOf hp n
  | _ => none
theorem len_seq {hp : Ht} {d : D} {xs : List D} (h : seqOf hp d = some xs) : gLen [d] hp = .ok (.int xs.length) hp := by
  cases d with
  | tup ys => cases h; rfl
  | ref n => exact gLen_r h
  | _ => cases h
theorem ix_seqD {hp : Ht} {d : D} {xs : List D} {i : Nat} {x : D} (h : seqOf hp d = some xs) (e : xs[i]? = some x) : gIxD d (.int (i : Int)) hp = .ok x hp := by
  have e2 := atI_nat e
  cases d with
  | tup ys => cases h; rw [gIxD_t, e2]
  | ref n => rw [gIxD_r h, e2]
  | _ => cases h
theorem seq_ext {hp hp' : Ht} {d : D} {xs : List D} {W : List Nat} (h : seqOf hp d = some xs) (e : Ext W hp hp') (hn : ∀ n, d = .ref n → n ∉ W) : seqOf hp' d = some xs := by
  cases d with
  | tup ys => exact h
  | ref n =>
    have hn' := hn n rfl
    simp only [seqOf, lsOf] at h ⊢
    split at h
    · rename_i ys ey; rw [e.some ey hn']; exact h
    · rename_i ys ey; rw [e.some ey hn']; exact h
    · cases h
  | _ => cases h
/-- _law_pick -/
def PickS (F : OpN) : Prop := ∀ (hp : Ht) (n : Nat) (d : D) (xs : List D), Box hp n → seqOf hp d = some xs → 1 ≤ xs.length → xs.length ≤ 1000000 → d ≠ .ref n → ∃ (x : D) (hp' : Ht), F [.ref n, d] hp = .ok x hp' ∧ x ∈ xs ∧ Box hp' n ∧ Ext [n] hp hp' ∧ hp'.length = hp.length
theorem pick_s {F : OpN} (T : TakeS F) : PickS (runDef 2 2 (pickB F)) := by
  intro hp n d xs hb hs h1 h2 hn
  obtain ⟨r, hp', e, hr, b, x, l⟩ := T hp n xs.length hb h1 h2
  have hx : xs[r]? = some xs[r] := List.getElem?_eq_getElem hr
  have hs' : seqOf hp' d = some xs := seq_ext hs x (fun m em => by
    rw [List.mem_singleton]
    rintro rfl
    exact hn em)
  refine ⟨xs[r], hp', ?_, List.getElem_mem hr, b, x, l⟩
  rw [runDef_e]
  simp [startD, pickB, len_seq hs, e, ix_seqD hs' hx]
/-! ### _law_same -/
inductive Pln : Nat → D → Prop
  | non {n : Nat} : Pln n .non
  | bl {n : Nat} (b : Bool) : Pln n (.bl b)
  | int {n : Nat} (i : Int) : Pln n (.int i)
  | str {n : Nat} (x : Str) : Pln n (.str x)
  | tup {n : Nat} {xs : List D} : (∀ x ∈ xs, Pln n x) → xs.length ≤ 1000000 → Pln (n + 1) (.tup xs)
theorem Pln.up {n : Nat} {d : D} (h : Pln n d) : Pln (n + 1) d := by
  induction h with
  | non => exact .non
  | bl b => exact .bl b
  | int i => exact .int i
  | str x => exact .str x
  | tup _ hl ih => exact .tup ih hl
theorem Pln.mono {n m : Nat} {d : D} (h : Pln n d) (k : n ≤ m) : Pln m d := by
  induction k with
  | refl => exact h
  | step _ ih => exact ih.up
def sameB (F : OpN) : SF := (sSeq (sIf (tTru (fCall gIsi (fCons (fVar 1) (fCons (fC (.ty "tuple")) fNil)))) (sRet (fAndT (fCall gIsi (fCons (fVar 0) (fCons (fC (.ty "tuple")) fNil))) (fAndT (fBin gEq (fCall gLen (fCons (fVar 0) fNil)) (fCall gLen (fCons (fVar 1) fNil))) (fBin gEq (fLc (iZipF (fCons (fVar 0) (fCons (fVar 1) fNil))) (gT 2 (gCons' (gN 2) (gCons' (gN 3) gNil'))) (tNotF (tTru (fCall F (fCons (fVar 2) (fCons (fVar 3) fNil))))) (fC (.int 1)) [2, 3]) (fLst fNil))))) (fun env hp => .nx env hp)) (sSeq (sIf (tOrF (tVal (fBin gIs (fVar 1) (fC .non))) (tVal (fBin gIs (fVar 0) (fC .non)))) (sRet (fAndT (fBin gIs (fVar 1) (fC .non)) (fBin gIs (fVar 0) (fC .non)))) (fun env hp => .nx env hp)) (sSeq (sIf (tOrF (tTru (fCall gIsi (fCons (fVar 1) (fCons (fC (.ty "bool")) fNil)))) (tTru (fCall gIsi (fCons (fVar 0) (fCons (fC (.ty "bool")) fNil))))) (sRet (fAndT (fCall gIsi (fCons (fVar 1) (fCons (fC (.ty "bool")) fNil))) (fAndT (fCall gIsi (fCons (fVar 0) (fCons (fC (.ty "bool")) fNil))) (fBin gEq (fVar 0) (fVar 1))))) (fun env hp => .nx env hp)) (sRet (fAndT (fIf (tTru (fCall gIsi (fCons (fVar 1) (fCons (fC (.ty "int")) fNil)))) (fCall gIsi (fCons (fVar 0) (fCons (fC (.ty "int")) fNil))) (fCall gIsi (fCons (fVar 0) (fCons (fC (.ty "str")) fNil)))) (fBin gEq (fVar 0) (fVar 1)))))))
section
variable {hp : Ht}
theorem isi_tup {xs : List D} {t : String} (ht : t ∈ ["tuple", "int", "bool", "str", "list", "dict", "bytes"]) : gIsi [.tup xs, .ty t] hp = .ok (.bl (isiT "tuple" t)) hp := by
  simp only [gIsi, tyN]
  rw [if_pos ht]
theorem isi_int {i : Int} {t : String} (ht : t ∈ ["tuple", "int", "bool", "str", "list", "dict", "bytes"]) : gIsi [.int i, .ty t] hp = .ok (.bl (isiT "int" t)) hp := by
  simp only [gIsi, tyN]
  rw [if_pos ht]
theorem isi_str {i : Str} {t : String} (ht : t ∈ ["tuple", "int", "bool", "str", "list", "dict", "bytes"]) : gIsi [.str i, .ty t] hp = .ok (.bl (isiT "str" t)) hp := by
  simp only [gIsi, tyN]
  rw [if_pos ht]
theorem isi_bl {i : Bool} {t : String} (ht : t ∈ ["tuple", "int", "bool", "str", "list", "dict", "bytes"]) : gIsi [.bl i, .ty t] hp = .ok (.bl (isiT "bool" t)) hp := by
  simp only [gIsi, tyN]
  rw [if_pos ht]
theorem isi_non {t : String} (ht : t ∈ ["tuple", "int", "bool", "str", "list", "dict", "bytes"]) : gIsi [.non, .ty t] hp = .ok (.bl (isiT "NoneType" t)) hp := by
  simp only [gIsi, tyN]
  rw [if_pos ht]
@[simp] theorem tru_bl {b : Bool} : tru (.bl b) hp = some b := rfl
@[simp] theorem tru_int {b : Int} : tru (.int b) hp = some (b != 0) := rfl
@[simp] theorem tru_non : tru .non hp = some false := rfl
@[simp] theorem tru_tup {xs : List D} : tru (.tup xs) hp = some (!xs.isEmpty) := rfl
theorem item_zip {xs ys : List D} {i : Nat} : itemS (.zip (.tup xs) (.tup ys)) i hp = some ((List.zipWith (fun a b => D.tup [a, b]) xs ys)[i]?) := by
  simp only [itemS, List.getElem?_zipWith]
  cases xs[i]? <;> cases ys[i]? <;> rfl
theorem eq_nils {a b : Nat} (ha : hp[a]? = some (.lst [])) (hb : hp[b]? = some (.lst [])) : gEq (.ref a) (.ref b) hp = .ok (.bl true) hp := by
  have e : ∀ {n}, hp[n]? = some (.lst []) → py hp (.ref n) = some (.list []) := fun {n} h => by
    simp [py, pyW, pyR, h, pyWs]
  unfold gEq eqB
  rw [if_neg (by simp [scalD]), e ha, e hb]
  simp only
  rw [if_pos (by constructor <;> decide +kernel)]
  rfl
end
theorem same_s : ∀ (m : Nat) (d : D), Pln m d → ∀ hp : Ht, ∃ g, recD 2 4 sameB (m + 1) [d, d] hp = .ok (.bl true) (hp ++ g)
  | m, .non, _, hp => by
    refine ⟨[], ?_⟩
    show runDef 2 4 (sameB (recD 2 4 sameB m)) _ _ = _
    rw [runDef_e]
    simp [startD, sameB, isi_non, isiT]
  | m, .bl b, _, hp => by
    refine ⟨[], ?_⟩
    show runDef 2 4 (sameB (recD 2 4 sameB m)) _ _ = _
    rw [runDef_e]
    simp [startD, sameB, isi_bl, isiT]
  | m, .int b, _, hp => by
    refine ⟨[], ?_⟩
    show runDef 2 4 (sameB (recD 2 4 sameB m)) _ _ = _
    rw [runDef_e]
    simp [startD, sameB, isi_int, isiT]
  | m, .str b, _, hp => by
    refine ⟨[], ?_⟩
    show runDef 2 4 (sameB (recD 2 4 sameB m)) _ _ = _
    rw [runDef_e]
    simp [startD, sameB, isi_str, isiT]
  | m + 1, .tup xs, h, hp => by
    obtain ⟨hxs, hl⟩ : (∀ x ∈ xs, Pln m x) ∧ xs.length ≤ 1000000 := by cases h with | tup a b => exact ⟨a, b⟩
    have hz : (List.zipWith (fun a b => D.tup [a, b]) xs xs).length = xs.length := by simp
    have loop : Ok (lcS (gT 2 (gCons' (gN 2) (gCons' (gN 3) gNil'))) (tNotF (tTru (fCall (recD 2 4 sameB (m + 1)) (fCons (fVar 2) (fCons (fVar 3) fNil))))) (fC (.int 1)) (.zip (.tup xs) (.tup xs)) hp.length [some (.tup xs), some (.tup xs), none, none] (xs.length + 1) 0 (hp ++ [.lst []]))
        fun d hp' => d = .ref hp.length ∧ ∃ acc' : List D, acc' = [] ∧ hp'[hp.length]? = some (.lst []) ∧ ∃ g, hp' = hp ++ [.lst []] ++ g := by
      refine Ok.mono (lc_inv (items := List.zipWith (fun a b => D.tup [a, b]) xs xs) (I := fun i acc hp' => acc = [] ∧ hp'[hp.length]? = some (.lst []) ∧ ∃ g, hp' = hp ++ [.lst []] ++ g) (fun i acc hp' _ => item_zip) (fun i acc hp' h => by rw [h.1]; simp) (fun i d acc hp' hd hI => ?_) (by rw [hz]; exact hl) (xs.length + 1) 0 [] _ (by rw [hz]; omega) (Nat.zero_le _) ⟨rfl, by simp, [], by simp⟩) fun a b q => q
      rw [List.getElem?_zipWith] at hd
      cases ex : xs[i]? with
      | none => rw [ex] at hd; cases hd
      | some x =>
        rw [ex] at hd
        simp only [Option.some.injEq] at hd
        subst hd
        obtain ⟨g, hg⟩ := same_s m x (hxs x (List.mem_of_getElem? ex)) hp'
        obtain ⟨h1, h2, g0, h3⟩ := hI
        refine ⟨[some (.tup xs), some (.tup xs), some x, some x], hp', by simp, false, hp' ++ g, by simp [hg], ?_⟩
        simp only [Bool.false_eq_true, if_false]
        refine ⟨h1, ?_, g0 ++ g, by rw [h3]; simp⟩
        rw [List.getElem?_append_left (List.getElem?_eq_some_iff.mp h2).1]
        exact h2
    obtain ⟨d, hp', e, rfl, acc', _, h2, g, h3⟩ := loop
    refine ⟨[.lst []] ++ g ++ [.lst []], ?_⟩
    show runDef 2 4 (sameB (recD 2 4 sameB (m + 1))) _ _ = _
    rw [runDef_e]
    have hq : (hp' ++ [O.lst []])[hp.length]? = some (.lst []) := by
      rw [List.getElem?_append_left (List.getElem?_eq_some_iff.mp h2).1]
      exact h2
    have hq2 : (hp' ++ [O.lst []])[hp'.length]? = some (.lst []) := by simp
    have he := eq_nils hq hq2
    simp [startD, sameB, isi_tup, isiT, fLc_e, wipeD, lenS, e, he]
    rw [h3]
    simp
  | 0, .tup xs, h, hp => by cases h
  | m, .ref n, h, _ => by cases h
  | m, .byt n, h, _ => by cases h
  | m, .ty n, h, _ => by cases h
end DL
set_option Elab.async false
set_option linter.all false
set_option maxRecDepth 100000
set_option maxHeartbeats 1000000
namespace DL
open PySem PySem.Spec PyProof.Rows L2
/-! ### _law_box -/
def boxB (c1 c2 c3 c4 c5 c6 c7 c8 : Int) : SF := (sSeq (sAsg (fBin gAdd (fBin gMul (fC (.int c1)) (fVar 1)) (fC (.int c2))) (gN 2)) (sSeq (sIf (tVal (fBin gLt (fVar 1) (fCall gLen (fCons (fVar 0) fNil)))) (sAsg (fCall gAbs (fCons (fCall gInt (fCons (fBin gIxD (fVar 0) (fVar 1)) fNil)) fNil)) (gN 2)) (sIf (tVal (fBin gGt (fCall gLen (fCons (fVar 0) fNil)) (fC (.int 0)))) (sAsg (fBin gAdd (fVar 2) (fBin gMul (fBin gMod (fCall gInt (fCons (fCall gAbs (fCons (fCall gInt (fCons (fBin gIxD (fVar 0) (fBin gMod (fCall gInt (fCons (fVar 1) fNil)) (fCall gLen (fCons (fVar 0) fNil)))) fNil)) fNil)) fNil)) (fC (.int c3))) (fC (.int c4)))) (gN 2)) (fun env hp => .nx env hp))) (sSeq (sAsg (fIf (tVal (fBin gGe (fVar 2) (fBin gPow (fC (.int 10)) (fC (.int 18))))) (fVar 2) (fC (.int 0))) (gN 3)) (sRet (fLst (fCons (fVar 3) (fCons (fBin gAdd (fBin gMod (fCall gInt (fCons (fBin gAdd (fBin gMul (fBin gMod (fCall gInt (fCons (fVar 2) fNil)) (fC (.int c5))) (fC (.int c6))) (fBin gMul (fC (.int c7)) (fVar 1))) fNil)) (fC (.int c8))) (fC (.int 1))) fNil)))))))
structure BoxC (c1 c2 c3 c4 c5 c6 c7 c8 : Int) : Prop where
  k1 : Cst c1
  k2 : Cst c2
  k3 : Cst c3 ∧ c3 ≤ 4294967296
  k4 : Cst c4
  k5 : Cst c5 ∧ c5 ≤ 4294967296
  k6 : Cst c6
  k7 : Cst c7
  k8 : Cst c8 ∧ c8 + 1 ≤ 4294967296
/-- _law_box -/
def BoxS (F : OpN) : Prop := ∀ (hp : Ht) (n : Nat) (ns : List Int) (k : Nat), lsOf hp n = some (ns.map D.int) → k ≤ 1000 → ns.length ≤ 1000000 → ∃ o, F [.ref n, .int (k : Int)] hp = .ok (.ref hp.length) (hp ++ [o]) ∧ Box (hp ++ [o]) hp.length
theorem mulC' {c : Int} {i : Int} {hp : Ht} (h : Cst c) (h0 : 0 ≤ i) (h1 : i ≤ 1152921504606846976) : gMul (.int c) (.int i) hp = .ok (.int (c * i)) hp := by
  apply gMul_i
  have a := log_le h0 h1
  have b := log_le (i := c) (by have := h.1; omega) (by have := h.2; omega)
  omega
theorem pow18 {hp : Ht} : gPow (.int 10) (.int 18) hp = .ok (.int 1000000000000000000) hp := by
  unfold gPow
  simp
theorem box_tail {c1 c2 c3 c4 c5 c6 c7 c8 : Int} (C : BoxC c1 c2 c3 c4 c5 c6 c7 c8) {hp : Ht} {x : D} {k : Nat} {y : Option D} {cell : Int} (hc : 0 ≤ cell) (hk : k ≤ 1000) :
    ∃ o, ans (sSeq (sAsg (fIf (tVal (fBin gGe (fVar 2) (fBin gPow (fC (.int 10)) (fC (.int 18))))) (fVar 2) (fC (.int 0))) (gN 3)) (sRet (fLst (fCons (fVar 3) (fCons (fBin gAdd (fBin gMod (fCall gInt (fCons (fBin gAdd (fBin gMul (fBin gMod (fCall gInt (fCons (fVar 2) fNil)) (fC (.int c5))) (fC (.int c6))) (fBin gMul (fC (.int c7)) (fVar 1))) fNil)) (fC (.int c8))) (fC (.int 1))) fNil)))) [some x, some (.int (k : Int)), some (.int cell), y] hp) = .ok (.ref hp.length) (hp ++ [o]) ∧ Box (hp ++ [o]) hp.length := by
  have m0 := Int.emod_nonneg cell (show c5 ≠ 0 by have := C.k5.1.1; omega)
  have m1 := Int.emod_lt_of_pos cell C.k5.1.1
  have := C.k5.2
  generalize hm : cell % c5 = m at m0 m1
  have q1 : ∀ hp, gMul (.int m) (.int c6) hp = .ok (.int (m * c6)) hp := fun hp => mulC C.k6 m0 (by omega)
  have q2 : ∀ hp, gMul (.int c7) (.int (k : Int)) hp = .ok (.int (c7 * k)) hp := fun hp => mulC' C.k7 (by omega) (by omega)
  have r0 := Int.emod_nonneg (m * c6 + c7 * k) (show c8 ≠ 0 by have := C.k8.1.1; omega)
  have r1 := Int.emod_lt_of_pos (m * c6 + c7 * k) C.k8.1.1
  have r2 := C.k8.2
  generalize hr : (m * c6 + c7 * k) % c8 = r at r0 r1
  by_cases c : 1000000000000000000 ≤ cell
  · refine ⟨.lst [.int cell, .int (r + 1)], ?_, ⟨cell, r + 1, by simp, hc, by omega, by omega⟩⟩
    simp [pow18, c, modC C.k5.1.1, modC C.k8.1.1, hm, q1, q2, hr]
  · refine ⟨.lst [.int 0, .int (r + 1)], ?_, ⟨0, r + 1, by simp, Int.le_refl _, by omega, by omega⟩⟩
    simp [pow18, c, modC C.k5.1.1, modC C.k8.1.1, hm, q1, q2, hr]
theorem box_s {c1 c2 c3 c4 c5 c6 c7 c8 : Int} (C : BoxC c1 c2 c3 c4 c5 c6 c7 c8) : BoxS (runDef 2 4 (boxB c1 c2 c3 c4 c5 c6 c7 c8)) := by
  intro hp n ns k hl hk hz
  have hlen := gLen_r hl
  rw [List.length_map] at hlen
  have q0 : ∀ hp, gMul (.int c1) (.int (k : Int)) hp = .ok (.int (c1 * k)) hp := fun hp => mulC' C.k1 (by omega) (by omega)
  have hat : ∀ j : Nat, j < ns.length → gIxD (.ref n) (.int (j : Int)) hp = .ok (.int (ns.getD j 0)) hp := fun j hj => by
    rw [gIxD_r hl, atI_nat (v := D.int (ns.getD j 0)) (by rw [List.getElem?_map, List.getD_eq_getElem?_getD, List.getElem?_eq_getElem hj]; rfl)]
  have nn : ∀ i : Int, 0 ≤ (if i < 0 then -i else i) := fun i => by split <;> omega
  have c0 : 0 ≤ c1 * k + c2 := by
    have := Int.mul_nonneg (Int.le_of_lt C.k1.1) (show (0 : Int) ≤ k by omega)
    have := C.k2.1
    omega
  rw [runDef_e]
  simp only [List.length_cons, List.length_nil, startD, List.map_cons, List.map_nil, boxB, if_true]
  by_cases c : k < ns.length
  · have h := box_tail C (hp := hp) (x := .ref n) (k := k) (y := none) (nn (ns.getD k 0)) hk
    simp [q0, hlen, c, hat k c] at h ⊢
    exact h
  · by_cases c2' : 0 < ns.length
    · have hm : gMod (.int (k : Int)) (.int (ns.length : Int)) hp = .ok (.int ((k % ns.length : Nat) : Int)) hp := by
        rw [gMod_i (by omega)]
        simp
      have ha := hat (k % ns.length) (Nat.mod_lt _ c2')
      have v0 := nn (ns.getD (k % ns.length) 0)
      generalize hv : (if ns.getD (k % ns.length) 0 < 0 then -ns.getD (k % ns.length) 0 else ns.getD (k % ns.length) 0) = v at v0
      have m0 := Int.emod_nonneg v (show c3 ≠ 0 by have := C.k3.1.1; omega)
      have m1 := Int.emod_lt_of_pos v C.k3.1.1
      have := C.k3.2
      have q4 : ∀ hp, gMul (.int (v % c3)) (.int c4) hp = .ok (.int (v % c3 * c4)) hp := fun hp => mulC C.k4 m0 (by omega)
      have n1 : 0 ≤ c1 * k + c2 + v % c3 * c4 := by
        have := Int.mul_nonneg m0 (Int.le_of_lt C.k4.1)
        omega
      have h := box_tail C (hp := hp) (x := .ref n) (k := k) (y := none) n1 hk
      have hab : gAbs [.int (ns.getD (k % ns.length) 0)] hp = .ok (.int v) hp := by rw [gAbs_i, hv]
      simp only [sSeq_e, thn_nx, sAsg_e, sIf_e, tVal_e, fBin_e, fC_e, fVar_0, fVar_1, fVar_2, Out.ok_bind, Out.ok_so, q0, gAdd_i, gN_e, fCall_e, fCons_e, fNil_e, hlen, gLt_i, gGt_i, List.replicate_succ, List.replicate_zero, List.cons_append, List.nil_append, List.set_cons_succ, List.set_cons_zero]
      have c' : ¬ ((k : Int) < (ns.length : Int)) := by omega
      have c3' : (0 : Int) < (ns.length : Int) := by omega
      simp only [thn_nx, c', c3', decide_false, decide_true, Bool.false_eq_true, if_false, if_true, hlen, gInt_i, hm, ha, hab, modC C.k3.1.1, q4, Out.ok_bind, Out.ok_so, gAdd_i, gN_e, List.set_cons_succ, List.set_cons_zero]
      simp only [sSeq_e, sAsg_e] at h
      exact h
    · have h := box_tail C (hp := hp) (x := .ref n) (k := k) (y := none) c0 hk
      simp [q0, hlen, c, c2'] at h ⊢
      exact h
end DL
set_option Elab.async false
set_option linter.all false
set_option maxRecDepth 100000
set_option maxHeartbeats 1000000
namespace DL
open PySem PySem.Spec PyProof.Rows L2
/-! ### _law_mixed -/
def mixL (F : OpN) : SF := (sExpr (fBM isL gAppend (fVar 3) (fCons (fBM isL gPopAt (fVar 2) (fCons (fCall F (fCons (fVar 0) (fCons (fCall gLen (fCons (fVar 2) fNil)) fNil))) fNil)) fNil)))
def mixB (F : OpN) : SF := (sSeq (sPar [2, 3] (fCons (fCall gList (fCons (fVar 1) fNil)) (fCons (fLst fNil) fNil))) (sSeq (sFor (iRange1 (fCons (fCall gLen (fCons (fVar 1) fNil)) fNil)) (gN 4) (mixL F)) (sRet (fVar 3))))
/-- _law_mixed -/
def MixS (F : OpN) : Prop := ∀ (hp : Ht) (n : Nat) (d : D) (xs : List D), Box hp n → seqOf hp d = some xs → xs.length ≤ 1000000 → d ≠ .ref n → ∃ (r : Nat) (ys : List D) (hp' : Ht), F [.ref n, d] hp = .ok (.ref r) hp' ∧ hp'[r]? = some (.lst ys) ∧ ys.Perm xs ∧ hp.length ≤ r ∧ Box hp' n ∧ Ext [n] hp hp'
theorem list_seq {hp : Ht} {d : D} {xs : List D} (h : seqOf hp d = some xs) : gList [d] hp = .ok (.ref hp.length) (hp ++ [.lst xs]) := by
  cases d with
  | tup ys => cases h; rfl
  | ref n => exact gList_r h
  | _ => cases h
theorem popAt_s {hp : Ht} {n k : Nat} {ys : List D} {y : D} (h : hp[n]? = some (.lst ys)) (hz : ys.length ≤ 1000000) (e : ys[k]? = some y) : gPopAt (.ref n) [.int (k : Int)] hp = .ok y (hp.set n (.lst (ys.eraseIdx k))) := by
  have hk := (List.getElem?_eq_some_iff.mp e).1
  have hs : seqIndex? (k : Int) ys.length = some k := by
    have := PySem.StrLaws.seqIndex_nonneg (i := (k : Int)) (n := ys.length) (by omega) (by omega)
    rwa [Int.toNat_natCast] at this
  unfold gPopAt
  simp only [h]
  rw [if_pos (Sm.of (by omega))]
  simp only [hs, e]
theorem append_s {hp : Ht} {n : Nat} {ys : List D} {y : D} (h : hp[n]? = some (.lst ys)) (hz : ys.length ≤ 1000000) : gAppend (.ref n) [y] hp = .ok .non (hp.set n (.lst (ys ++ [y]))) := by
  unfold gAppend
  simp only [h]
  rw [if_pos]
  exact Nat.lt_of_lt_of_le (by omega : ys.length < 1000001) (by rw [sizeLine_eq]; omega)
theorem isL_lst {hp : Ht} {n : Nat} {ys : List D} (h : hp[n]? = some (.lst ys)) : isL (.ref n) hp = true := by
  simp [isL, lsOf_lst h]
theorem erase_perm {α : Type} : ∀ {l : List α} {k : Nat} {y : α}, l[k]? = some y → (y :: l.eraseIdx k).Perm l
  | [], _, _, h => by simp at h
  | x :: l, 0, y, h => by simp at h; subst h; exact List.Perm.refl _
  | x :: l, k + 1, y, h => by
    have ih := erase_perm (l := l) (k := k) (by simpa using h)
    exact (List.Perm.swap x y _).trans (ih.cons x)
theorem mix_s {F : OpN} (T : TakeS F) : MixS (runDef 2 5 (mixB F)) := by
  intro hp n d xs hb hs hz hn
  have hnl : n < hp.length := by obtain ⟨a, b, e, _⟩ := hb.ex; exact (List.getElem?_eq_some_iff.mp e).1
  let I : Nat → En → Ht → Prop := fun i env hp' => ∃ o left found, env = [some (.ref n), some d, some (.ref hp.length), some (.ref (hp.length + 1)), o] ∧ hp'[hp.length]? = some (.lst left) ∧ hp'[hp.length + 1]? = some (.lst found) ∧ (left ++ found).Perm xs ∧ left.length + i = xs.length ∧ Box hp' n ∧ Ext [n] hp hp'
  have h0 : I 0 [some (.ref n), some d, some (.ref hp.length), some (.ref (hp.length + 1)), none] (hp ++ [.lst xs] ++ [.lst []]) := by
    refine ⟨none, xs, [], rfl, ?_, ?_, by simp, by simp, ?_, ?_⟩
    · rw [List.append_assoc, List.getElem?_append_right (Nat.le_refl _), Nat.sub_self]; rfl
    · rw [List.append_assoc, List.getElem?_append_right (Nat.le_succ _)]; simp
    · rw [List.append_assoc]; exact hb.ext (Ext.app [] _ _) (by simp)
    · rw [List.append_assoc]; exact Ext.app _ _ _
  have loop := for_inv (g := gN 4) (body := mixL F) (src := .rng 0 xs.length) (I := I) (R := fun _ _ => False) (items := ranD xs.length) (fun i env hp' _ => item_rng) (fun i dd env hp' hd hI => by
    obtain ⟨o, left, found, rfl, h1, h2, h3, h4, h5, h6⟩ := hI
    obtain ⟨_, hi⟩ := ranD_at hd
    obtain ⟨k, hp2, e, hk, b2, x2, l2⟩ := T hp' n left.length h5 (by omega) (by omega)
    have hL1 : hp2[hp.length]? = some (.lst left) := x2.some h1 (by simp; omega)
    have hL2 : hp2[hp.length + 1]? = some (.lst found) := x2.some h2 (by simp; omega)
    obtain ⟨y, ey⟩ : ∃ y, left[k]? = some y := ⟨left[k], List.getElem?_eq_getElem hk⟩
    have hp3l : hp.length < hp2.length := (List.getElem?_eq_some_iff.mp hL1).1
    have hp3m : hp.length + 1 < hp2.length := (List.getElem?_eq_some_iff.mp hL2).1
    have pop := popAt_s hL1 (by omega) ey
    have hL2' : (hp2.set hp.length (.lst (left.eraseIdx k)))[hp.length + 1]? = some (.lst found) := by rw [List.getElem?_set_ne (by omega)]; exact hL2
    have hfl : found.length ≤ 1000000 := by
      have := h3.length_eq
      rw [List.length_append] at this
      omega
    have app := append_s (y := y) hL2' hfl
    have run : (gN 4 dd [some (.ref n), some d, some (.ref hp.length), some (.ref (hp.length + 1)), o] hp').so (mixL F) = .nx [some (.ref n), some d, some (.ref hp.length), some (.ref (hp.length + 1)), some dd] ((hp2.set hp.length (.lst (left.eraseIdx k))).set (hp.length + 1) (.lst (found ++ [y]))) := by
      simp [mixL, isL_lst h2, isL_lst h1, gLen_r (lsOf_lst h1), e, pop, app]
    rw [run]
    refine ⟨some dd, left.eraseIdx k, found ++ [y], rfl, ?_, ?_, ?_, ?_, ?_, ?_⟩
    · rw [List.getElem?_set_ne (by omega), List.getElem?_set_self hp3l]
    · rw [List.getElem?_set_self (by simpa using hp3m)]
    · refine List.Perm.trans ?_ h3
      have p1 := erase_perm ey
      have : (left.eraseIdx k ++ (found ++ [y])).Perm (y :: left.eraseIdx k ++ found) := by
        rw [← List.append_assoc]
        exact (List.perm_append_comm (l₁ := left.eraseIdx k ++ found) (l₂ := [y]))
      exact this.trans (p1.append_right found)
    · rw [List.length_eraseIdx_of_lt hk]; omega
    · have q1 : Ext [hp.length, hp.length + 1] hp2 ((hp2.set hp.length (.lst (left.eraseIdx k))).set (hp.length + 1) (.lst (found ++ [y]))) := (Ext.set _ _ (by simp)).trans (Ext.set _ _ (by simp))
      exact b2.ext q1 (by simp; omega)
    · exact ((h6.trans x2).new (Nat.le_refl _)).new (Nat.le_succ _)) (xs.length + 1) 0 _ _ (by rw [ranD_len]; omega) (Nat.zero_le _) h0
  have hlen : gLen [d] (hp ++ [O.lst xs] ++ [O.lst []]) = .ok (.int xs.length) (hp ++ [O.lst xs] ++ [O.lst []]) := len_seq (seq_ext hs (by rw [List.append_assoc]; exact Ext.app [] _ _) (by simp))
  rw [runDef_e]
  have body : mixB F [some (.ref n), some d, none, none, none] hp = thnS (forS (gN 4) (mixL F) (.rng 0 xs.length) (xs.length + 1) 0 [some (.ref n), some d, some (.ref hp.length), some (.ref (hp.length + 1)), none] (hp ++ [.lst xs] ++ [.lst []])) (sRet (fVar 3)) := by
    have hlen' := hlen
    simp only [List.append_assoc, List.cons_append, List.nil_append] at hlen'
    simp only [mixB, sSeq_e, sPar2_e, fCons_e, fCall_e, fVar_1, fNil_e, Out.ok_bind, list_seq hs, fLst_e, List.length_nil, sz_0, if_true, Out.ok_so, thn_nx, List.length_append, List.length_cons, Nat.zero_add, List.append_assoc, List.cons_append, List.nil_append, List.set_cons_succ, List.set_cons_zero]
    rw [sFor_range (n := xs.length) (hp1 := hp ++ [O.lst xs, O.lst []]) (by simp [hlen']) (by omega)]
  simp only [startD, List.map_cons, List.map_nil, List.length_cons, List.length_nil, if_true]
  show ∃ r ys hp', ans (mixB F [some (.ref n), some d, none, none, none] hp) = _ ∧ _
  rw [body]
  obtain ⟨d', hp', e, r, ys, rfl, q⟩ := ResN.ok (R := fun d' hp' => ∃ r ys, d' = .ref r ∧ hp'[r]? = some (.lst ys) ∧ ys.Perm xs ∧ hp.length ≤ r ∧ Box hp' n ∧ Ext [n] hp hp') (ResN.thn (J := fun _ _ => False) (b := sRet (fVar 3)) (ResN.mono loop (fun _ _ h => h) (fun _ _ h => h.elim)) fun e hp1 hI => by
    obtain ⟨o, left, found, rfl, h1, h2, h3, h4, h5, h6⟩ := hI
    rw [ranD_len] at h4
    have : left = [] := List.eq_nil_of_length_eq_zero (by omega)
    subst this
    exact ⟨hp.length + 1, found, rfl, h2, by simpa using h3, Nat.le_succ _, h5, h6⟩)
  exact ⟨r, ys, hp', e, q⟩
end DL
set_option Elab.async false
set_option linter.all false
set_option maxRecDepth 100000
set_option maxHeartbeats 1000000
namespace DL
open PySem PySem.Spec PyProof.Rows L2
/-! ### comprehensions that change nothing -/
/-- the element gives f d of each item, and leaves only new things behind -/
theorem lc_map {g : GF} {e : EF} {src : Src} {env : En} {hp0 : Ht} {items : List D} (f : D → D) (hs : ∀ i hp, Ext [] hp0 hp → itemS src i hp = some items[i]?) (hz : items.length ≤ 1000000)
    (hb : ∀ d ∈ items, ∀ hp, Ext [] hp0 hp → ∃ env1, g d env hp = .ok env1 hp ∧ ∃ gg, e env1 hp = .ok (f d) (hp ++ gg)) :
    ∃ gg, lcS g tYesF e src hp0.length env (items.length + 1) 0 (hp0 ++ [.lst []]) = .ok (.ref hp0.length) (hp0 ++ [.lst (items.map f)] ++ gg) := by
  have key := lc_inv (g := g) (t := tYesF) (e := e) (src := src) (n0 := hp0.length) (env := env) (items := items) (I := fun i acc hp => acc = (items.take i).map f ∧ ∃ gg, hp = hp0 ++ [.lst acc] ++ gg)
    (fun i acc hp h => by
      obtain ⟨_, gg, rfl⟩ := h
      rw [List.append_assoc]
      exact hs i _ (Ext.app _ _ _))
    (fun i acc hp h => by rw [h.1]; simp; omega)
    (fun i d acc hp hd h => by
      obtain ⟨h1, gg, rfl⟩ := h
      obtain ⟨env1, e1, g2, e2⟩ := hb d (List.mem_of_getElem? hd) (hp0 ++ [.lst acc] ++ gg) (by rw [List.append_assoc]; exact Ext.app _ _ _)
      refine ⟨env1, _, e1, true, _, rfl, ?_⟩
      simp only [if_true]
      refine ⟨f d, _, e2, ?_, ?_, gg ++ g2, ?_⟩
      · simp
      · rw [List.take_add_one, hd, h1]; simp
      · simp)
    hz (items.length + 1) 0 [] (hp0 ++ [.lst []]) (by omega) (Nat.zero_le _) ⟨by simp, [], by simp⟩
  obtain ⟨d, hp', e1, rfl, acc, h1, gg, h2⟩ := key
  rw [List.take_length] at h1
  exact ⟨gg, by rw [e1, h2, h1]⟩
/-! ### _law_lot -/
def lotB : SF := (sRet (fCall gTuple (fCons (fCall gSorted (fCons (fCall gDict (fCons (fLc (iSrc (fVar 0)) (gN 1) tYesF (fTup (fCons (fVar 1) (fCons (fC (.int 1)) fNil))) [1]) fNil)) fNil)) fNil)))
def addI (acc : List Int) (i : Int) : List Int := if i ∈ acc then acc else acc ++ [i]
def one1 (i : Int) : D × D := (.int i, .int 1)
theorem put_int (i : Int) : ∀ acc : List Int, dPut (.num i) (.int i) (.int 1) (acc.map one1) = (addI acc i).map one1
  | [] => by simp [dPut, addI, one1]
  | a :: acc => by
    have ih := put_int i acc
    simp only [List.map_cons, one1, dPut, toKey, Option.some.injEq, NestedKey.num.injEq] at ih ⊢
    by_cases c : a = i
    · subst c; simp [addI, one1]
    · rw [if_neg c, ih]
      have c2 : ¬ i = a := fun e => c e.symm
      unfold addI
      by_cases d : i ∈ acc
      · simp [d, one1]
      · simp [d, c2, one1]
theorem keyOf_int (i : Int) : keyOf (.int i) = some (.num i) := by
  unfold keyOf
  simp [toKey, NestedKey.depth]
theorem putAll_int : ∀ (is acc : List Int), putAll (acc.map one1) (is.map one1) = some ((is.foldl addI acc).map one1)
  | [], acc => rfl
  | i :: is, acc => by
    simp only [List.map_cons, List.foldl_cons]
    have : putAll (acc.map one1) (one1 i :: is.map one1) = putAll (dPut (.num i) (.int i) (.int 1) (acc.map one1)) (is.map one1) := by
      simp only [one1, putAll, keyOf_int]
    rw [this, put_int, putAll_int is]
theorem addI_mem {acc : List Int} {i x : Int} : x ∈ addI acc i ↔ x ∈ acc ∨ x = i := by
  unfold addI
  split
  · constructor
    · exact .inl
    · rintro (h | rfl)
      · exact h
      · assumption
  · simp
theorem foldI_mem : ∀ (is acc : List Int) (x : Int), x ∈ is.foldl addI acc ↔ x ∈ acc ∨ x ∈ is
  | [], acc, x => by simp
  | i :: is, acc, x => by
    rw [List.foldl_cons, foldI_mem is, addI_mem, List.mem_cons, or_assoc]
theorem foldI_len : ∀ (is acc : List Int), (is.foldl addI acc).length ≤ acc.length + is.length
  | [], acc => by simp
  | i :: is, acc => by
    have h1 := foldI_len is (addI acc i)
    have h2 : (addI acc i).length ≤ acc.length + 1 := by
      unfold addI
      split <;> simp
    simp only [List.foldl_cons, List.length_cons]
    omega
theorem pairs_int : ∀ is : List Int, pairsOf (is.map fun i => D.tup [.int i, .int 1]) = some (is.map one1)
  | [] => rfl
  | i :: is => by
    simp only [List.map_cons, pairsOf]
    rw [pairs_int is]
    rfl
theorem enc_int {hp : Ht} (i : Int) : encD hp (.int i) = .int i := by simp [encD, py, pyW]
theorem sortOk_int {hp : Ht} {is : List Int} (h : is.length ≤ 1000000) : sortOk hp (is.map D.int) = true := by
  unfold sortOk
  simp only [Bool.and_eq_true, Bool.or_eq_true, List.all_map, List.all_eq_true, decide_eq_true_eq]
  refine ⟨⟨⟨⟨fun i _ => by simp [py, pyW], fun i _ => ?_⟩, fun i _ => ?_⟩, .inr fun i _ => ?_⟩, by rw [List.length_map, sizeLine_eq]; omega⟩
  · simp only [Function.comp, List.all_map, List.all_eq_true]
    intro j _
    simp only [Function.comp, enc_int]
    simp [PySem.W.alike]
  · simp only [Function.comp, enc_int]
    simp [PyData.depth]
  · simp only [Function.comp, enc_int]
theorem sortD_int {hp : Ht} (is : List Int) : sortD hp (is.map D.int) = (sortI is).map D.int := by
  unfold sortD sortI
  rw [List.map_mergeSort]
  intro a _ b _
  have := congrFun (congrFun (PySem.W.dataLe_int (β := Int) id) a) b
  simp only [id] at this
  rw [← this]
  unfold PySem.W.dataLe PySem.W.sortLe
  simp only [enc_int]
def LotS (F : OpN) : Prop := ∀ (hp : Ht) (d : D) (is : List Int), seqOf hp d = some (is.map D.int) → is.length ≤ 1000000 → ∃ (js : List Int) (g : Ht), F [d] hp = .ok (.tup (js.map D.int)) (hp ++ g) ∧ (∀ x, x ∈ js ↔ x ∈ is) ∧ js.Pairwise (· ≤ ·) ∧ js.length ≤ is.length
theorem src_seq {hp : Ht} {d : D} {xs : List D} {env : En} {f : EF} {hp1 : Ht} (hf : f env hp1 = .ok d hp) (h : seqOf hp d = some xs) : ∃ src, iSrc f env hp1 = .ok src hp ∧ lenS src hp = xs.length ∧ ∀ i hp', Ext [] hp hp' → itemS src i hp' = some xs[i]? := by
  cases d with
  | tup ys =>
    cases h
    exact ⟨.tup xs, by simp [hf], rfl, fun i hp' _ => rfl⟩
  | ref n =>
    have h' : lsOf hp n = some xs := h
    refine ⟨.lst n, by simp [hf, h'], by simp [lenS, h'], fun i hp' e => ?_⟩
    have := seq_ext (d := .ref n) h e (by simp)
    exact item_lst this
  | _ => cases h
theorem lot_s : LotS (runDef 1 2 lotB) := by
  intro hp d is hs hz
  obtain ⟨src, e1, e2, e3⟩ := src_seq (f := fVar 0) (env := [some d, none]) (hp1 := hp) rfl hs
  obtain ⟨gg, e4⟩ := lc_map (g := gN 1) (e := fTup (fCons (fVar 1) (fCons (fC (.int 1)) fNil))) (src := src) (env := [some d, none]) (hp0 := hp) (items := is.map D.int) (fun x => .tup [x, .int 1]) e3 (by simpa using hz) fun x _ hp' _ => ⟨[some d, some x], rfl, [], by simp⟩
  rw [List.map_map] at e4
  have hd : gDict [.ref hp.length] (hp ++ [O.lst (is.map ((fun x => D.tup [x, .int 1]) ∘ D.int))] ++ gg) = .ok (.ref (hp ++ [O.lst (is.map ((fun x => D.tup [x, .int 1]) ∘ D.int))] ++ gg).length) (hp ++ [O.lst (is.map ((fun x => D.tup [x, .int 1]) ∘ D.int))] ++ gg ++ [.dct ((is.foldl addI []).map one1)]) := by
    have hl : lsOf (hp ++ [O.lst (is.map ((fun x => D.tup [x, .int 1]) ∘ D.int))] ++ gg) hp.length = some (is.map ((fun x => D.tup [x, .int 1]) ∘ D.int)) := lsOf_lst (by simp)
    unfold gDict
    simp only [hl]
    have := pairs_int is
    rw [show (is.map ((fun x => D.tup [x, .int 1]) ∘ D.int)) = is.map (fun i => D.tup [.int i, .int 1]) from rfl, this]
    have q := putAll_int is []
    rw [List.map_nil] at q
    simp only [q]
    rw [if_pos (by rw [List.length_map, sizeLine_eq]; omega)]
  generalize hh : hp ++ [O.lst (is.map ((fun x => D.tup [x, .int 1]) ∘ D.int))] ++ gg = hp1 at e4 hd
  have hk : keysOf (hp1 ++ [.dct ((is.foldl addI []).map one1)]) hp1.length = some ((is.foldl addI []).map D.int) := by
    have g1 : (hp1 ++ [O.dct ((is.foldl addI []).map one1)])[hp1.length]? = some (.dct ((is.foldl addI []).map one1)) := by simp
    unfold keysOf
    have l1 : lsOf (hp1 ++ [O.dct ((is.foldl addI []).map one1)]) hp1.length = none := by unfold lsOf; rw [g1]
    have l2 : dctOf (hp1 ++ [O.dct ((is.foldl addI []).map one1)]) hp1.length = some ((is.foldl addI []).map one1) := by unfold dctOf; rw [g1]
    simp only [l1, l2, Option.map_some, List.map_map]
    rfl
  have hlen := foldI_len is []
  simp only [List.length_nil, Nat.zero_add] at hlen
  have hsrt : gSorted [.ref hp1.length] (hp1 ++ [.dct ((is.foldl addI []).map one1)]) = .ok (.ref (hp1 ++ [O.dct ((is.foldl addI []).map one1)]).length) (hp1 ++ [.dct ((is.foldl addI []).map one1)] ++ [.lst ((sortI (is.foldl addI [])).map D.int)]) := by
    unfold gSorted
    simp only [hk]
    rw [if_pos (sortOk_int (by omega)), sortD_int]
  have ht : gTuple [.ref (hp1 ++ [O.dct ((is.foldl addI []).map one1)]).length] (hp1 ++ [.dct ((is.foldl addI []).map one1)] ++ [.lst ((sortI (is.foldl addI [])).map D.int)]) = .ok (.tup ((sortI (is.foldl addI [])).map D.int)) (hp1 ++ [.dct ((is.foldl addI []).map one1)] ++ [.lst ((sortI (is.foldl addI [])).map D.int)]) :=
    gTuple_r (lsOf_lst (by simp))
  refine ⟨sortI (is.foldl addI []), [O.lst (is.map ((fun x => D.tup [x, .int 1]) ∘ D.int))] ++ gg ++ [.dct ((is.foldl addI []).map one1)] ++ [.lst ((sortI (is.foldl addI [])).map D.int)], ?_, fun x => ?_, sortI_le _, by rw [(sortI_perm _).length_eq]; exact hlen⟩
  · rw [runDef_e]
    have e5 : fLc (iSrc (fVar 0)) (gN 1) tYesF (fTup (fCons (fVar 1) (fCons (fC (.int 1)) fNil))) [1] [some d, none] hp = .ok (.ref hp.length) hp1 := by
      rw [fLc_e, e1, Out.ok_bind, e2]
      exact e4
    show ans (lotB [some d, none] hp) = _
    unfold lotB
    simp only [sRet_e, fCall_e, fCons_e, fNil_e, e5, Out.ok_bind, hd, hsrt, ht, Out.ok_so, ans_rt, Out.ok.injEq, true_and]
    rw [← hh]
    simp
  · rw [(sortI_perm _).mem_iff, foldI_mem]
    simp
end DL
set_option Elab.async false
set_option linter.all false
set_option maxRecDepth 100000
set_option maxHeartbeats 1000000
namespace DL
open PySem PySem.Spec PyProof.Rows L2
/-- what is walked, as a list of items -/
def Walks' (f : IF) (env : En) (hp hp1 : Ht) (items : List D) : Prop := ∃ src, f env hp = .ok src hp1 ∧ lenS src hp1 = items.length ∧ ∀ i hp', Ext [] hp1 hp' → itemS src i hp' = some items[i]?
section
variable {env : En} {hp hp1 : Ht} {f : EF} {d : D} {xs : List D}
theorem walks_seq (hf : f env hp = .ok d hp1) (h : seqOf hp1 d = some xs) : Walks' (iSrc f) env hp hp1 xs := src_seq hf h
theorem walks_range {fa : AF} {n : Nat} (h : fa env hp = .ok [.int (n : Int)] hp1) (hn : n ≤ 1000000000) : Walks' (iRange1 fa) env hp hp1 (ranD n) := ⟨.rng 0 n, range1_s h hn, by simp [lenS, ranD_len], fun i hp' _ => item_rng⟩
theorem enumD_len (ds : List D) : (enumD ds).length = ds.length := by simp [enumD]
theorem walks_enum {fa : AF} (h : fa env hp = .ok [.tup xs] hp1) : Walks' (iEnumF fa) env hp hp1 (enumD xs) := ⟨.enum (.tup xs), by simp [h], by simp [lenS, enumD_len], fun i hp' _ => item_enum⟩
theorem fLc_map {w : IF} {items : List D} {g : GF} {e : EF} {vs : List Nat} (F : D → D) (h : Walks' w env hp hp1 items) (hz : items.length ≤ 1000000)
    (hb : ∀ x ∈ items, ∀ hp', Ext [] hp1 hp' → ∃ env1, g x (wipeD env vs) hp' = .ok env1 hp' ∧ ∃ gg, e env1 hp' = .ok (F x) (hp' ++ gg)) : ∃ gg, fLc w g tYesF e vs env hp = .ok (.ref hp1.length) (hp1 ++ [.lst (items.map F)] ++ gg) := by
  obtain ⟨src, e1, e2, e3⟩ := h
  obtain ⟨gg, e4⟩ := lc_map (g := g) (e := e) (src := src) (env := wipeD env vs) F e3 hz hb
  refine ⟨gg, ?_⟩
  rw [fLc_e, e1, Out.ok_bind, e2]
  exact e4
theorem tupLc_map {w : IF} {items : List D} {g : GF} {e : EF} {vs : List Nat} (F : D → D) (h : Walks' w env hp hp1 items) (hz : items.length ≤ 1000000)
    (hb : ∀ x ∈ items, ∀ hp', Ext [] hp1 hp' → ∃ env1, g x (wipeD env vs) hp' = .ok env1 hp' ∧ ∃ gg, e env1 hp' = .ok (F x) (hp' ++ gg)) : ∃ gg, fCall gTuple (fCons (fLc w g tYesF e vs) fNil) env hp = .ok (.tup (items.map F)) (hp1 ++ gg) := by
  obtain ⟨gg, e1⟩ := fLc_map F h hz hb
  refine ⟨[.lst (items.map F)] ++ gg, ?_⟩
  simp only [fCall_e, fCons_e, fNil_e, e1, Out.ok_bind]
  rw [gTuple_r (lsOf_lst (ds := items.map F) (by simp))]
  simp
theorem gAdd_l {a b : Nat} {ys zs : List D} (h1 : hp[a]? = some (.lst ys)) (h2 : hp[b]? = some (.lst zs)) (hz : ys.length + zs.length ≤ 1000000) : gAdd (.ref a) (.ref b) hp = .ok (.ref hp.length) (hp ++ [.lst (ys ++ zs)]) := by
  unfold gAdd
  simp only [h1, h2]
  rw [if_pos (by rw [sizeLine_eq]; omega)]
end
theorem Ext.thru {W V : List Nat} {a b c : Ht} (h : Ext W a b) (k : Ext V b c) (hv : ∀ v ∈ V, a.length ≤ v ∨ v ∈ W) : Ext W a c := ⟨Nat.le_trans h.le k.le, fun i hi hw => by
  rw [k.at_ i (Nat.lt_of_lt_of_le hi h.le) (fun m => by
    rcases hv i m with q | q
    · omega
    · exact hw q)]
  exact h.at_ i hi hw⟩
theorem Res.mono {I J : En → Ht → Prop} {R S : D → Ht → Prop} {x : SO} (h : Res I R x) (k : ∀ e hp, I e hp → J e hp) (l : ∀ d hp, R d hp → S d hp) : Res J S x := by
  cases x with
  | nx e hp => exact k e hp h
  | ct e hp => exact k e hp h
  | rt d hp => exact l d hp h
  | _ => exact h.elim
end DL
set_option Elab.async false
set_option linter.all false
set_option maxRecDepth 100000
set_option maxHeartbeats 1000000
namespace DL
open PySem PySem.Spec PyProof.Rows L2
/-- what is walked, whatever the box is -/
def WalksB (n : Nat) (f : IF) (env : En) (hp hp1 : Ht) (items : List D) : Prop := ∃ src, f env hp = .ok src hp1 ∧ lenS src hp1 = items.length ∧ ∀ i hp', Ext [n] hp1 hp' → itemS src i hp' = some items[i]?
section
variable {env : En} {hp hp1 : Ht} {f : EF} {d : D} {xs : List D} {n : Nat}
theorem walksB_tup (hf : f env hp = .ok (.tup xs) hp1) : WalksB n (iSrc f) env hp hp1 xs := ⟨.tup xs, by simp [hf], rfl, fun i hp' _ => rfl⟩
theorem walksB_lst {m : Nat} (hf : f env hp = .ok (.ref m) hp1) (hl : lsOf hp1 m = some xs) (hm : m ≠ n) : WalksB n (iSrc f) env hp hp1 xs := ⟨.lst m, by simp [hf, hl], by simp [lenS, hl], fun i hp' e => item_lst (by
  have := seq_ext (d := .ref m) (xs := xs) hl e (by simp; exact hm)
  exact this)⟩
theorem walksB_range {fa : AF} {k : Nat} (h : fa env hp = .ok [.int (k : Int)] hp1) (hn : k ≤ 1000000000) : WalksB n (iRange1 fa) env hp hp1 (ranD k) := ⟨.rng 0 k, range1_s h hn, by simp [lenS, ranD_len], fun i hp' _ => item_rng⟩
/-- a comprehension that draws -/
theorem lc_box {w : IF} {items : List D} {g : GF} {e : EF} {vs : List Nat} (P : D → D → Prop) (h : WalksB n w env hp hp1 items) (hz : items.length ≤ 1000000) (hbx : Box hp1 n)
    (hb : ∀ x ∈ items, ∀ hp', Ext [n] hp1 hp' → Box hp' n → ∃ env1, g x (wipeD env vs) hp' = .ok env1 hp' ∧ ∃ y hp2, e env1 hp' = .ok y hp2 ∧ P x y ∧ Box hp2 n ∧ Ext [n] hp' hp2) :
    ∃ ys hp', fLc w g tYesF e vs env hp = .ok (.ref hp1.length) hp' ∧ hp'[hp1.length]? = some (.lst ys) ∧ ys.length = items.length ∧ (∀ (i : Nat) x y, items[i]? = some x → ys[i]? = some y → P x y) ∧ Box hp' n ∧ Ext [n] hp1 hp' := by
  obtain ⟨src, e1, e2, e3⟩ := h
  have hnl : n < hp1.length := by obtain ⟨a, b, e, _⟩ := hbx.ex; exact (List.getElem?_eq_some_iff.mp e).1
  have key := lc_inv (g := g) (t := tYesF) (e := e) (src := src) (n0 := hp1.length) (env := wipeD env vs) (items := items)
    (I := fun i acc hp' => acc.length = min i items.length ∧ hp'[hp1.length]? = some (.lst acc) ∧ (∀ (j : Nat) x y, items[j]? = some x → acc[j]? = some y → P x y) ∧ Box hp' n ∧ Ext [n] hp1 hp')
    (fun i acc hp' h => e3 i hp' h.2.2.2.2) (fun i acc hp' h => by rw [h.1]; omega)
    (fun i x acc hp' hd h => by
      obtain ⟨h1, h2, h3, h4, h5⟩ := h
      obtain ⟨env1, q1, y, hp2, q2, q3, q4, q5⟩ := hb x (List.mem_of_getElem? hd) hp' h5 h4
      have hi := (List.getElem?_eq_some_iff.mp hd).1
      have h2' : hp2[hp1.length]? = some (.lst acc) := q5.some h2 (by simp; omega)
      have hlt := (List.getElem?_eq_some_iff.mp h2').1
      refine ⟨env1, hp', q1, true, hp', rfl, ?_⟩
      simp only [if_true]
      refine ⟨y, hp2, q2, h2', by rw [List.length_append, List.length_singleton]; omega, List.getElem?_set_self hlt, fun j x' y' a b => ?_, q4.ext (W := [hp1.length]) (Ext.set _ _ (by simp)) (by simp; omega), (h5.trans q5).new (Nat.le_refl _)⟩
      by_cases c : j < acc.length
      · rw [List.getElem?_append_left c] at b
        exact h3 j x' y' a b
      · have e : j = acc.length := by
          have := (List.getElem?_eq_some_iff.mp b).1
          simp at this
          omega
        subst e
        rw [List.getElem?_append_right (Nat.le_refl _), Nat.sub_self] at b
        simp at b
        subst b
        have e4 : acc.length = i := by omega
        rw [e4, hd] at a
        cases a
        exact q3) hz (items.length + 1) 0 [] (hp1 ++ [.lst []]) (by omega) (Nat.zero_le _) ⟨by simp, by simp, fun j x y _ b => by simp at b, hbx.ext (Ext.app [] _ _) (by simp), Ext.app _ _ _⟩
  obtain ⟨d', hp', q1, rfl, acc, h1, h2, h3, h4, h5⟩ := key
  refine ⟨acc, hp', ?_, h2, by omega, h3, h4, h5⟩
  rw [fLc_e, e1, Out.ok_bind, e2]
  exact q1
theorem tupLc_box {w : IF} {items : List D} {g : GF} {e : EF} {vs : List Nat} (P : D → D → Prop) (h : WalksB n w env hp hp1 items) (hz : items.length ≤ 1000000) (hbx : Box hp1 n)
    (hb : ∀ x ∈ items, ∀ hp', Ext [n] hp1 hp' → Box hp' n → ∃ env1, g x (wipeD env vs) hp' = .ok env1 hp' ∧ ∃ y hp2, e env1 hp' = .ok y hp2 ∧ P x y ∧ Box hp2 n ∧ Ext [n] hp' hp2) :
    ∃ ys hp', fCall gTuple (fCons (fLc w g tYesF e vs) fNil) env hp = .ok (.tup ys) hp' ∧ ys.length = items.length ∧ (∀ (i : Nat) x y, items[i]? = some x → ys[i]? = some y → P x y) ∧ Box hp' n ∧ Ext [n] hp1 hp' := by
  obtain ⟨ys, hp', e1, e2, e3, e4, e5, e6⟩ := lc_box P h hz hbx hb
  refine ⟨ys, hp', ?_, e3, e4, e5, e6⟩
  simp only [fCall_e, fCons_e, fNil_e, e1, Out.ok_bind]
  exact gTuple_r (lsOf_lst e2)
end
theorem Box.lt {hp : Ht} {n : Nat} (h : Box hp n) : n < hp.length := by obtain ⟨a, b, e, _⟩ := h.ex; exact (List.getElem?_eq_some_iff.mp e).1
theorem rg_ok {n : Nat} (h : n ≤ 1000) : rgOk 0 (n : Int) = true := by
  unfold rgOk
  apply decide_eq_true
  refine ⟨Sm.of (by simp), Sm.of (by omega), by omega⟩
theorem fLstRg1_s {env : En} {hp hp1 : Ht} {f : EF} {n : Nat} (h : f env hp = .ok (.int (n : Int)) hp1) (hn : n ≤ 1000) : fLstRg (fRg1 f) env hp = .ok (.ref hp1.length) (hp1 ++ [.lst (rgD 0 n)]) := by
  rw [fLstRg_e, fRg1_e, h, Out.ok_bind]
  show Out.bind (.ok ((0 : Int), (n : Int)) hp1) _ = _
  rw [Out.ok_bind]
  exact if_pos (rg_ok hn)
end DL
set_option Elab.async false
set_option linter.all false
set_option maxRecDepth 100000
set_option maxHeartbeats 0
namespace K23
open PySem PySem.Spec PyProof.Rows L2 DL
def topS (i : Nat) : Stmt := PySem.Challenge.pw_anyiron_k23_whole_counts_run.main.body.getD i (.Pass ⟨0, 0, 0, 0⟩)
def c_MEET : D := (.str "meet")
def c_CALL : D := (.str "call")
def c_END : D := (.str "end")
def c_EVER : D := (.str "ever")
abbrev s_number_at : Stmt := topS 5
def b_number_at : SF := (sRet (fBin gAdd (fBin gAdd (fSl (fVar 0) fNoPart (fPart (fVar 1))) (fTup (fCons (fVar 2) fNil))) (fSl (fVar 0) (fPart (fBin gAdd (fVar 1) (fC (.int 1)))) fNoPart)))
def g_number_at : OpN := runDef 3 3 b_number_at
theorem sc_number_at : FnScope ["numbers", "spot", "number"] ["numbers", "spot", "number"] (defScope s_number_at) := ⟨rfl, rfl, rfl, by decide +kernel, rfl, by decide +kernel, by decide +kernel⟩
abbrev s_count_behind : Stmt := topS 6
def b_count_behind : SF := (sSeq (sIf (tVal (fBin gEq (fBin gIxD (fVar 1) (fC (.int 0))) (fC (.str "go")))) (sRet (fTup (fCons (fBin gIxD (fVar 1) (fC (.int 1))) (fCons (fVar 3) fNil)))) (fun env hp => .nx env hp)) (sSeq (sAsg (fBin gIxD (fVar 3) (fBin gIxD (fVar 1) (fC (.int 1)))) (gN 4)) (sSeq (sIf (tVal (fBin gEq (fBin gIxD (fVar 1) (fC (.int 0))) (fC (.str "test")))) (sRet (fTup (fCons (fIf (tVal (fBin gEq (fVar 4) (fC (.int 0)))) (fBin gIxD (fVar 1) (fC (.int 2))) (fBin gAdd (fVar 2) (fC (.int 1)))) (fCons (fVar 3) fNil)))) (fun env hp => .nx env hp)) (sSeq (sAsg (fIf (tVal (fBin gEq (fBin gIxD (fVar 1) (fC (.int 0))) (fC (.str "zero")))) (fC (.int 0)) (fBin gMod (fBin gAdd (fVar 4) (fC (.int 1))) (fBin gAdd (fBin gIxD (fBin gIxD (fVar 0) (fC (.int 0))) (fBin gIxD (fVar 1) (fC (.int 1)))) (fC (.int 1))))) (gN 5)) (sRet (fTup (fCons (fBin gAdd (fVar 2) (fC (.int 1))) (fCons (fCall (g_number_at) (fCons (fVar 3) (fCons (fBin gIxD (fVar 1) (fC (.int 1))) (fCons (fVar 5) fNil)))) fNil))))))))
def g_count_behind : OpN := runDef 4 6 b_count_behind
theorem sc_count_behind : FnScope ["counts", "row", "place", "numbers", "number", "later"] ["counts", "row", "place", "numbers"] (defScope s_count_behind) := ⟨rfl, rfl, rfl, by decide +kernel, rfl, by decide +kernel, by decide +kernel⟩
abbrev s_next_count : Stmt := topS 7
def b_next_count_1 : SF := (sSeq (sIf (tVal (fBin (gIn false) (fBin gIxD (fBin gIxD (fVar 4) (fVar 1)) (fC (.int 0))) (fTup (fCons (fC c_MEET) (fCons (fC c_CALL) fNil))))) (sRet (fTup (fCons (fBin gIxD (fBin gIxD (fVar 4) (fVar 1)) (fC (.int 0))) (fCons (fVar 1) (fCons (fVar 2) fNil))))) (fun env hp => .nx env hp)) (sSeq (sIf (tVal (fBin gEq (fBin gIxD (fBin gIxD (fVar 4) (fVar 1)) (fC (.int 0))) (fC c_END))) (sRet (fTup (fCons (fC c_END) fNil))) (fun env hp => .nx env hp)) (sSeq (sAsg (fC (.bl true)) (gSub' (fVar 3) (fTup (fCons (fVar 1) (fCons (fVar 2) fNil))) gPut)) (sAsg (fCall (g_count_behind) (fCons (fVar 0) (fCons (fBin gIxD (fVar 4) (fVar 1)) (fCons (fVar 1) (fCons (fVar 2) fNil))))) (gT 2 (gCons' (gN 1) (gCons' (gN 2) gNil')))))))
def b_next_count_2 : BF := (tVal (fBin (gIn true) (fTup (fCons (fVar 1) (fCons (fVar 2) fNil))) (fVar 3)))
def b_next_count : SF := (sSeq (sPar [3, 4] (fCons fDct0 (fCons (fBin gIxD (fVar 0) (fC (.int 1))) fNil))) (sSeq (sWhile b_next_count_2 b_next_count_1) (sRet (fTup (fCons (fC c_EVER) fNil)))))
def g_next_count : OpN := runDef 3 5 b_next_count
theorem sc_next_count : FnScope ["counts", "place", "numbers", "met", "rows"] ["counts", "place", "numbers"] (defScope s_next_count) := ⟨rfl, rfl, rfl, by decide +kernel, rfl, by decide +kernel, by decide +kernel⟩
abbrev s_count_events : Stmt := topS 8
def b_count_events_1 : SF := (sSeq (sAsg (fCall (g_next_count) (fCons (fVar 0) (fCons (fVar 2) (fCons (fVar 3) fNil)))) (gN 6)) (sSeq (sIf (tVal (fBin gNe (fBin gIxD (fVar 6) (fC (.int 0))) (fC c_MEET))) (sRet (fCall gTuple (fCons (fBin gAdd (fVar 4) (fLst (fCons (fVar 6) fNil))) fNil))) (fun env hp => .nx env hp)) (sSeq (sAsg (fSl (fBin gIxD (fBin gIxD (fVar 0) (fC (.int 1))) (fBin gIxD (fVar 6) (fC (.int 1)))) (fPart (fC (.int 1))) fNoPart) (gT 2 (gCons' (gN 7) (gCons' (gN 8) gNil')))) (sSeq (sIf (tVal (fBin gIs (fVar 5) (fC .non))) (sRet (fCall gTuple (fCons (fBin gAdd (fVar 4) (fLst (fCons (fTup (fCons (fVar 7) (fCons (fBin gIxD (fVar 6) (fC (.int 2))) fNil))) fNil))) fNil))) (fun env hp => .nx env hp)) (sSeq (sExpr (fBM isL gAppend (fVar 4) (fCons (fTup (fCons (fVar 7) (fCons (fBin gIxD (fVar 6) (fC (.int 2))) (fCons (fCall gTuple (fCons (fLc (iSrc (fVar 8)) (gN 9) tYesF (fBin gIxD (fVar 5) (fVar 9)) [9]) fNil)) fNil)))) fNil))) (sSeq (sAsg (fBin gAdd (fBin gIxD (fVar 6) (fC (.int 1))) (fC (.int 1))) (gN 2)) (sAsg (fCall gTuple (fCons (fLc (iEnumF (fCons (fBin gIxD (fVar 6) (fC (.int 2))) fNil)) (gT 2 (gCons' (gN 9) (gCons' (gN 10) gNil'))) tYesF (fIf (tVal (fBin (gIn false) (fVar 9) (fVar 8))) (fBin gIxD (fVar 5) (fVar 9)) (fVar 10)) [9, 10]) fNil)) (gN 3))))))))
def b_count_events : SF := (sSeq (sPar [2, 3, 4] (fCons (fC (.int 0)) (fCons (fBin gMul (fTup (fCons (fC (.int 0)) fNil)) (fCall gLen (fCons (fBin gIxD (fVar 0) (fC (.int 0))) fNil))) (fCons (fLst fNil) fNil)))) (sSeq (sFor (iSrc (fBin gAdd (fCall gTuple (fCons (fVar 1) fNil)) (fTup (fCons (fC .non) fNil)))) (gN 5) b_count_events_1) (sRet (fCall gTuple (fCons (fVar 4) fNil)))))
def g_count_events : OpN := runDef 2 11 b_count_events
theorem sc_count_events : FnScope ["counts", "feed", "place", "numbers", "found", "fed", "told", "name", "taken", "spot", "number"] ["counts", "feed"] (defScope s_count_events) := ⟨rfl, rfl, rfl, by decide +kernel, rfl, by decide +kernel, by decide +kernel⟩
abbrev s__law_box : Stmt := topS 10
def b__law_box : SF := (sSeq (sAsg (fBin gAdd (fBin gMul (fC (.int 52361)) (fVar 1)) (fC (.int 7451))) (gN 2)) (sSeq (sIf (tVal (fBin gLt (fVar 1) (fCall gLen (fCons (fVar 0) fNil)))) (sAsg (fCall gAbs (fCons (fCall gInt (fCons (fBin gIxD (fVar 0) (fVar 1)) fNil)) fNil)) (gN 2)) (sIf (tVal (fBin gGt (fCall gLen (fCons (fVar 0) fNil)) (fC (.int 0)))) (sAsg (fBin gAdd (fVar 2) (fBin gMul (fBin gMod (fCall gInt (fCons (fCall gAbs (fCons (fCall gInt (fCons (fBin gIxD (fVar 0) (fBin gMod (fCall gInt (fCons (fVar 1) fNil)) (fCall gLen (fCons (fVar 0) fNil)))) fNil)) fNil)) fNil)) (fC (.int 2147483563))) (fC (.int 60913)))) (gN 2)) (fun env hp => .nx env hp))) (sSeq (sAsg (fIf (tVal (fBin gGe (fVar 2) (fBin gPow (fC (.int 10)) (fC (.int 18))))) (fVar 2) (fC (.int 0))) (gN 3)) (sRet (fLst (fCons (fVar 3) (fCons (fBin gAdd (fBin gMod (fCall gInt (fCons (fBin gAdd (fBin gMul (fBin gMod (fCall gInt (fCons (fVar 2) fNil)) (fC (.int 2147483563))) (fC (.int 48271))) (fBin gMul (fC (.int 7919)) (fVar 1))) fNil)) (fC (.int 2147483563))) (fC (.int 1))) fNil)))))))
def g__law_box : OpN := runDef 2 4 b__law_box
theorem sc__law_box : FnScope ["script", "k", "cell", "great"] ["script", "k"] (defScope s__law_box) := ⟨rfl, rfl, rfl, by decide +kernel, rfl, by decide +kernel, by decide +kernel⟩
abbrev s__law_take : Stmt := topS 11
def b__law_take : SF := (sSeq (sIf (tVal (fBin gGt (fBin gIxD (fVar 0) (fC (.int 0))) (fC (.int 0)))) (sSeq (sAsg (fBin gMod (fCall gInt (fCons (fBin gIxD (fVar 0) (fC (.int 0))) fNil)) (fVar 1)) (gN 2)) (sSeq (sAsg (fBin gDiv (fBin gIxD (fVar 0) (fC (.int 0))) (fVar 1)) (gSub' (fVar 0) (fC (.int 0)) gPut)) (sRet (fVar 2)))) (fun env hp => .nx env hp)) (sSeq (sAsg (fBin gMod (fCall gInt (fCons (fBin gAdd (fBin gMul (fBin gIxD (fVar 0) (fC (.int 1))) (fC (.int 39373))) (fC (.int 743))) fNil)) (fC (.int 2147483647))) (gN 3)) (sSeq (sAsg (fBin gAdd (fBin gMod (fCall gInt (fCons (fBin gAdd (fBin gMul (fVar 3) (fC (.int 40692))) (fC (.int 211))) fNil)) (fC (.int 2147483563))) (fC (.int 1))) (gSub' (fVar 0) (fC (.int 1)) gPut)) (sRet (fBin gMod (fCall gInt (fCons (fBin gDiv (fBin gAdd (fBin gMul (fVar 3) (fC (.int 2147483629))) (fBin gIxD (fVar 0) (fC (.int 1)))) (fC (.int 7919))) fNil)) (fVar 1))))))
def g__law_take : OpN := runDef 2 4 b__law_take
theorem sc__law_take : FnScope ["box", "many", "digit", "raw"] ["box", "many"] (defScope s__law_take) := ⟨rfl, rfl, rfl, by decide +kernel, rfl, by decide +kernel, by decide +kernel⟩
abbrev s__law_pick : Stmt := topS 12
def b__law_pick : SF := (sRet (fBin gIxD (fVar 1) (fCall (g__law_take) (fCons (fVar 0) (fCons (fCall gLen (fCons (fVar 1) fNil)) fNil)))))
def g__law_pick : OpN := runDef 2 2 b__law_pick
theorem sc__law_pick : FnScope ["box", "some"] ["box", "some"] (defScope s__law_pick) := ⟨rfl, rfl, rfl, by decide +kernel, rfl, by decide +kernel, by decide +kernel⟩
abbrev s__law_same : Stmt := topS 13
def b__law_same (F__law_same : OpN) : SF := (sSeq (sIf (tTru (fCall gIsi (fCons (fVar 1) (fCons (fC (.ty "tuple")) fNil)))) (sRet (fAndT (fCall gIsi (fCons (fVar 0) (fCons (fC (.ty "tuple")) fNil))) (fAndT (fBin gEq (fCall gLen (fCons (fVar 0) fNil)) (fCall gLen (fCons (fVar 1) fNil))) (fBin gEq (fLc (iZipF (fCons (fVar 0) (fCons (fVar 1) fNil))) (gT 2 (gCons' (gN 2) (gCons' (gN 3) gNil'))) (tNotF (tTru (fCall (F__law_same) (fCons (fVar 2) (fCons (fVar 3) fNil))))) (fC (.int 1)) [2, 3]) (fLst fNil))))) (fun env hp => .nx env hp)) (sSeq (sIf (tOrF (tVal (fBin gIs (fVar 1) (fC .non))) (tVal (fBin gIs (fVar 0) (fC .non)))) (sRet (fAndT (fBin gIs (fVar 1) (fC .non)) (fBin gIs (fVar 0) (fC .non)))) (fun env hp => .nx env hp)) (sSeq (sIf (tOrF (tTru (fCall gIsi (fCons (fVar 1) (fCons (fC (.ty "bool")) fNil)))) (tTru (fCall gIsi (fCons (fVar 0) (fCons (fC (.ty "bool")) fNil))))) (sRet (fAndT (fCall gIsi (fCons (fVar 1) (fCons (fC (.ty "bool")) fNil))) (fAndT (fCall gIsi (fCons (fVar 0) (fCons (fC (.ty "bool")) fNil))) (fBin gEq (fVar 0) (fVar 1))))) (fun env hp => .nx env hp)) (sRet (fAndT (fIf (tTru (fCall gIsi (fCons (fVar 1) (fCons (fC (.ty "int")) fNil)))) (fCall gIsi (fCons (fVar 0) (fCons (fC (.ty "int")) fNil))) (fCall gIsi (fCons (fVar 0) (fCons (fC (.ty "str")) fNil)))) (fBin gEq (fVar 0) (fVar 1)))))))
def r__law_same : Nat → OpN := recD 2 4 b__law_same
def g__law_same : OpN := r__law_same 40
theorem sc__law_same : FnScope ["told", "due", "one", "other"] ["told", "due"] (defScope s__law_same) := ⟨rfl, rfl, rfl, by decide +kernel, rfl, by decide +kernel, by decide +kernel⟩
abbrev s__law_mixed : Stmt := topS 14
def b__law_mixed_1 : SF := (sExpr (fBM isL gAppend (fVar 3) (fCons (fBM isL gPopAt (fVar 2) (fCons (fCall (g__law_take) (fCons (fVar 0) (fCons (fCall gLen (fCons (fVar 2) fNil)) fNil))) fNil)) fNil)))
def b__law_mixed : SF := (sSeq (sPar [2, 3] (fCons (fCall gList (fCons (fVar 1) fNil)) (fCons (fLst fNil) fNil))) (sSeq (sFor (iRange1 (fCons (fCall gLen (fCons (fVar 1) fNil)) fNil)) (gN 4) b__law_mixed_1) (sRet (fVar 3))))
def g__law_mixed : OpN := runDef 2 5 b__law_mixed
theorem sc__law_mixed : FnScope ["box", "some", "left", "found", "turn"] ["box", "some"] (defScope s__law_mixed) := ⟨rfl, rfl, rfl, by decide +kernel, rfl, by decide +kernel, by decide +kernel⟩
abbrev s__law_lot : Stmt := topS 15
def b__law_lot : SF := (sRet (fCall gTuple (fCons (fCall gSorted (fCons (fCall gDict (fCons (fLc (iSrc (fVar 0)) (gN 1) tYesF (fTup (fCons (fVar 1) (fCons (fC (.int 1)) fNil))) [1]) fNil)) fNil)) fNil)))
def g__law_lot : OpN := runDef 1 2 b__law_lot
theorem sc__law_lot : FnScope ["some", "one"] ["some"] (defScope s__law_lot) := ⟨rfl, rfl, rfl, by decide +kernel, rfl, by decide +kernel, by decide +kernel⟩
abbrev s__law_feed : Stmt := topS 16
def b__law_feed : SF := (sRet (fCall gTuple (fCons (fLc (iRange1 (fCons (fVar 2) fNil)) (gN 3) tYesF (fCall gTuple (fCons (fLc (iSrc (fVar 1)) (gN 4) tYesF (fCall (g__law_take) (fCons (fVar 0) (fCons (fBin gAdd (fVar 4) (fC (.int 1))) fNil))) [4]) fNil)) [3]) fNil)))
def g__law_feed : OpN := runDef 3 5 b__law_feed
theorem sc__law_feed : FnScope ["box", "tops", "many", "turn", "top"] ["box", "tops", "many"] (defScope s__law_feed) := ⟨rfl, rfl, rfl, by decide +kernel, rfl, by decide +kernel, by decide +kernel⟩
abbrev s__law_count_next : Stmt := topS 17
def b__law_count_next_1 : SF := (sSeq (sAsg (fBin gIxD (fVar 4) (fVar 1)) (gN 6)) (sSeq (sIf (tVal (fBin (gIn false) (fBin gIxD (fVar 6) (fC (.int 0))) (fTup (fCons (fC (.str "meet")) (fCons (fC (.str "call")) (fCons (fC (.str "end")) fNil)))))) (sRet (fIf (tVal (fBin gEq (fBin gIxD (fVar 6) (fC (.int 0))) (fC (.str "end")))) (fTup (fCons (fC (.str "end")) fNil)) (fTup (fCons (fBin gIxD (fVar 6) (fC (.int 0))) (fCons (fVar 1) (fCons (fVar 2) fNil)))))) (fun env hp => .nx env hp)) (sSeq (sIf (tVal (fBin (gIn false) (fBin gIxD (fVar 6) (fC (.int 0))) (fTup (fCons (fC (.str "up")) (fCons (fC (.str "zero")) fNil))))) (sSeq (sAsg (fIf (tOrF (tVal (fBin gEq (fBin gIxD (fVar 6) (fC (.int 0))) (fC (.str "zero")))) (tVal (fBin gEq (fBin gIxD (fVar 2) (fBin gIxD (fVar 6) (fC (.int 1)))) (fBin gIxD (fVar 3) (fBin gIxD (fVar 6) (fC (.int 1))))))) (fC (.int 0)) (fBin gAdd (fBin gIxD (fVar 2) (fBin gIxD (fVar 6) (fC (.int 1)))) (fC (.int 1)))) (gN 7)) (sAsg (fBin gAdd (fBin gAdd (fSl (fVar 2) fNoPart (fPart (fBin gIxD (fVar 6) (fC (.int 1))))) (fTup (fCons (fVar 7) fNil))) (fSl (fVar 2) (fPart (fBin gAdd (fBin gIxD (fVar 6) (fC (.int 1))) (fC (.int 1)))) fNoPart)) (gN 2))) (fun env hp => .nx env hp)) (sAsg (fIf (tVal (fBin gEq (fBin gIxD (fVar 6) (fC (.int 0))) (fC (.str "go")))) (fBin gIxD (fVar 6) (fC (.int 1))) (fIf (tAndF (tVal (fBin gEq (fBin gIxD (fVar 6) (fC (.int 0))) (fC (.str "test")))) (tVal (fBin gEq (fBin gIxD (fVar 2) (fBin gIxD (fVar 6) (fC (.int 1)))) (fC (.int 0))))) (fBin gIxD (fVar 6) (fC (.int 2))) (fBin gAdd (fVar 1) (fC (.int 1))))) (gN 1)))))
def b__law_count_next : SF := (sSeq (sAsg (fVar 0) (gT 2 (gCons' (gN 3) (gCons' (gN 4) gNil')))) (sSeq (sFor (iRange1 (fCons (fBin gAdd (fBin gMul (fCall gLen (fCons (fVar 4) fNil)) (fC (.int 64))) (fC (.int 1))) fNil)) (gN 5) b__law_count_next_1) (sRet (fTup (fCons (fC (.str "ever")) fNil)))))
def g__law_count_next : OpN := runDef 3 8 b__law_count_next
theorem sc__law_count_next : FnScope ["counts", "place", "numbers", "tops", "rows", "turn", "row", "later"] ["counts", "place", "numbers"] (defScope s__law_count_next) := ⟨rfl, rfl, rfl, by decide +kernel, rfl, by decide +kernel, by decide +kernel⟩
abbrev s__law_count_events : Stmt := topS 18
def b__law_count_events_1 : SF := (sSeq (sAsg (fCall (g__law_count_next) (fCons (fVar 0) (fCons (fVar 2) (fCons (fVar 3) fNil)))) (gN 6)) (sSeq (sIf (tVal (fBin gNe (fBin gIxD (fVar 6) (fC (.int 0))) (fC (.str "meet")))) (sRet (fBin gAdd (fVar 4) (fTup (fCons (fVar 6) fNil)))) (fun env hp => .nx env hp)) (sSeq (sAsg (fTup (fCons (fBin gIxD (fBin gIxD (fVar 0) (fC (.int 1))) (fBin gIxD (fVar 6) (fC (.int 1)))) (fCons (fBin gAdd (fBin gIxD (fVar 6) (fC (.int 1))) (fC (.int 1))) (fCons (fBin gIxD (fVar 6) (fC (.int 2))) fNil)))) (gT 3 (gCons' (gN 7) (gCons' (gN 2) (gCons' (gN 3) gNil'))))) (sSeq (sIf (tVal (fBin gIs (fVar 5) (fC .non))) (sRet (fBin gAdd (fVar 4) (fTup (fCons (fTup (fCons (fBin gIxD (fVar 7) (fC (.int 1))) (fCons (fVar 3) fNil))) fNil)))) (fun env hp => .nx env hp)) (sSeq (sAsg (fBin gAdd (fVar 4) (fTup (fCons (fTup (fCons (fBin gIxD (fVar 7) (fC (.int 1))) (fCons (fVar 3) (fCons (fCall gTuple (fCons (fLc (iSrc (fBin gIxD (fVar 7) (fC (.int 2)))) (gN 8) tYesF (fBin gIxD (fVar 5) (fVar 8)) [8]) fNil)) fNil)))) fNil))) (gN 4)) (sAsg (fCall gTuple (fCons (fLc (iEnumF (fCons (fVar 3) fNil)) (gT 2 (gCons' (gN 8) (gCons' (gN 9) gNil'))) tYesF (fIf (tVal (fBin (gIn false) (fVar 8) (fBin gIxD (fVar 7) (fC (.int 2))))) (fBin gIxD (fVar 5) (fVar 8)) (fVar 9)) [8, 9]) fNil)) (gN 3)))))))
def b__law_count_events : SF := (sSeq (sPar [2, 3, 4] (fCons (fC (.int 0)) (fCons (fBin gMul (fTup (fCons (fC (.int 0)) fNil)) (fCall gLen (fCons (fBin gIxD (fVar 0) (fC (.int 0))) fNil))) (fCons (fTup fNil) fNil)))) (sSeq (sFor (iSrc (fBin gAdd (fCall gTuple (fCons (fVar 1) fNil)) (fTup (fCons (fC .non) fNil)))) (gN 5) b__law_count_events_1) (sRet (fVar 4))))
def g__law_count_events : OpN := runDef 2 10 b__law_count_events
theorem sc__law_count_events : FnScope ["counts", "feed", "place", "numbers", "found", "fed", "told", "row", "spot", "number"] ["counts", "feed"] (defScope s__law_count_events) := ⟨rfl, rfl, rfl, by decide +kernel, rfl, by decide +kernel, by decide +kernel⟩
abbrev s__law_any_counts : Stmt := topS 19
def b__law_any_counts_1 : SF := (sSeq (sPar [6, 7] (fCons (fCall (g__law_take) (fCons (fVar 0) (fCons (fCall gLen (fCons (fVar 2) fNil)) fNil))) (fCons (fCall (g__law_take) (fCons (fVar 0) (fCons (fVar 3) fNil))) fNil))) (sSeq (sAsg (fLst (fCons (fTup (fCons (fC (.str "up")) (fCons (fVar 6) fNil))) (fCons (fTup (fCons (fC (.str "up")) (fCons (fVar 6) fNil))) (fCons (fTup (fCons (fC (.str "zero")) (fCons (fVar 6) fNil))) (fCons (fTup (fCons (fC (.str "test")) (fCons (fVar 6) (fCons (fVar 7) fNil)))) (fCons (fTup (fCons (fC (.str "test")) (fCons (fVar 6) (fCons (fVar 7) fNil)))) (fCons (fTup (fCons (fC (.str "go")) (fCons (fVar 7) fNil))) (fCons (fTup (fCons (fC (.str "meet")) (fCons (fCall (g__law_pick) (fCons (fVar 0) (fCons (fLst (fCons (fC (.str "a")) (fCons (fC (.str "b")) fNil))) fNil))) (fCons (fCall (g__law_lot) (fCons (fLc (iRange1 (fCons (fCall (g__law_take) (fCons (fVar 0) (fCons (fC (.int 4)) fNil))) fNil)) (gN 10) tYesF (fCall (g__law_take) (fCons (fVar 0) (fCons (fCall gLen (fCons (fVar 2) fNil)) fNil))) [10]) fNil)) fNil)))) fNil)))))))) (gN 8)) (sSeq (sAsg (fBin gAdd (fBin gAdd (fVar 8) (fLst (fCons (fTup (fCons (fC (.str "end")) fNil)) fNil))) (fBin gMul (fLst (fCons (fTup (fCons (fC (.str "call")) (fCons (fCall (g__law_take) (fCons (fVar 0) (fCons (fC (.int 2)) fNil))) (fCons (fCall gTuple (fCons (fSl (fCall (g__law_mixed) (fCons (fVar 0) (fCons (fLstRg (fRg1 (fCall gLen (fCons (fVar 2) fNil)))) fNil))) fNoPart (fPart (fCall (g__law_take) (fCons (fVar 0) (fCons (fC (.int 3)) fNil))))) fNil)) fNil)))) fNil)) (fVar 1))) (gN 8)) (sExpr (fBM isL gAppend (fVar 4) (fCons (fIf (tVal (fBin gLt (fVar 5) (fBin gSub (fVar 3) (fC (.int 1))))) (fCall (g__law_pick) (fCons (fVar 0) (fCons (fVar 8) fNil))) (fCall (g__law_pick) (fCons (fVar 0) (fCons (fLst (fCons (fTup (fCons (fC (.str "end")) fNil)) (fCons (fTup (fCons (fC (.str "go")) (fCons (fVar 7) fNil))) (fCons (fTup (fCons (fC (.str "go")) (fCons (fC (.int 0)) fNil))) fNil)))) fNil)))) fNil))))))
def b__law_any_counts : SF := (sSeq (sAsg (fTup (fCons (fCall gTuple (fCons (fLc (iRange1 (fCons (fBin gAdd (fC (.int 1)) (fCall (g__law_take) (fCons (fVar 0) (fCons (fC (.int 3)) fNil)))) fNil)) (gN 9) tYesF (fBin gAdd (fC (.int 1)) (fCall (g__law_take) (fCons (fVar 0) (fCons (fC (.int 3)) fNil)))) [9]) fNil)) (fCons (fBin gAdd (fC (.int 2)) (fCall (g__law_take) (fCons (fVar 0) (fCons (fC (.int 11)) fNil)))) fNil))) (gT 2 (gCons' (gN 2) (gCons' (gN 3) gNil')))) (sSeq (sAsg (fLst fNil) (gN 4)) (sSeq (sFor (iRange1 (fCons (fVar 3) fNil)) (gN 5) b__law_any_counts_1) (sRet (fTup (fCons (fVar 2) (fCons (fCall gTuple (fCons (fVar 4) fNil)) fNil)))))))
def g__law_any_counts : OpN := runDef 2 11 b__law_any_counts
theorem sc__law_any_counts : FnScope ["box", "calls", "tops", "many", "rows", "place", "spot", "there", "some", "variable", "turn"] ["box", "calls"] (defScope s__law_any_counts) := ⟨rfl, rfl, rfl, by decide +kernel, rfl, by decide +kernel, by decide +kernel⟩
abbrev s_law : Stmt := topS 20
def b_law_1 : SF := (sSeq (sPar [8, 9] (fCons (fCall (g__law_take) (fCons (fVar 4) (fCons (fCall gLen (fCons (fBin gIxD (fVar 6) (fC (.int 1))) fNil)) fNil))) (fCons (fCall gTuple (fCons (fLc (iSrc (fBin gIxD (fVar 6) (fC (.int 0)))) (gN 11) tYesF (fCall (g__law_take) (fCons (fVar 4) (fCons (fBin gAdd (fVar 11) (fC (.int 1))) fNil))) [11]) fNil)) fNil))) (sIf (tNotF (tTru (fCall (g__law_same) (fCons (fCall (g_next_count) (fCons (fVar 6) (fCons (fVar 8) (fCons (fVar 9) fNil)))) (fCons (fCall (g__law_count_next) (fCons (fVar 6) (fCons (fVar 8) (fCons (fVar 9) fNil)))) fNil))))) (sRet (fC (.bl false))) (fun env hp => .nx env hp)))
def b_law_2 : SF := (sSeq (sAsg (fCall (g__law_any_counts) (fCons (fVar 4) (fCons (fBin gMod (fVar 5) (fC (.int 2))) fNil))) (gN 6)) (sSeq (sFor (iRange1 (fCons (fC (.int 4)) fNil)) (gN 7) b_law_1) (sSeq (sAsg (fCall (g__law_feed) (fCons (fVar 4) (fCons (fBin gIxD (fVar 6) (fC (.int 0))) (fCons (fCall (g__law_take) (fCons (fVar 4) (fCons (fC (.int 7)) fNil))) fNil)))) (gN 10)) (sIf (tAndF (tVal (fBin gEq (fBin gMod (fVar 5) (fC (.int 2))) (fC (.int 0)))) (tNotF (tTru (fCall (g__law_same) (fCons (fCall (g_count_events) (fCons (fVar 6) (fCons (fVar 10) fNil))) (fCons (fCall (g__law_count_events) (fCons (fVar 6) (fCons (fVar 10) fNil))) fNil)))))) (sRet (fC (.bl false))) (fun env hp => .nx env hp)))))
def b_law_3 : SF := (sSeq (sAsg (fCall (g__law_box) (fCons (fVar 0) (fCons (fVar 3) fNil))) (gN 4)) (sFor (iRange1 (fCons (fC (.int 6)) fNil)) (gN 5) b_law_2))
def b_law : SF := (sSeq (sAsg (fTup (fCons (fTup (fCons (fC (.int 3)) (fCons (fC (.int 3)) (fCons (fC (.int 3)) fNil)))) (fCons (fTup (fCons (fTup (fCons (fC (.str "up")) (fCons (fC (.int 0)) fNil))) (fCons (fTup (fCons (fC (.str "test")) (fCons (fC (.int 0)) (fCons (fC (.int 3)) fNil)))) (fCons (fTup (fCons (fC (.str "go")) (fCons (fC (.int 0)) fNil))) (fCons (fTup (fCons (fC (.str "up")) (fCons (fC (.int 1)) fNil))) (fCons (fTup (fCons (fC (.str "test")) (fCons (fC (.int 1)) (fCons (fC (.int 6)) fNil)))) (fCons (fTup (fCons (fC (.str "go")) (fCons (fC (.int 0)) fNil))) (fCons (fTup (fCons (fC (.str "up")) (fCons (fC (.int 2)) fNil))) (fCons (fTup (fCons (fC (.str "test")) (fCons (fC (.int 2)) (fCons (fC (.int 9)) fNil)))) (fCons (fTup (fCons (fC (.str "go")) (fCons (fC (.int 0)) fNil))) (fCons (fTup (fCons (fC (.str "meet")) (fCons (fC (.str "a")) (fCons (fTup (fCons (fC (.int 2)) fNil)) fNil)))) (fCons (fTup (fCons (fC (.str "zero")) (fCons (fC (.int 1)) fNil))) (fCons (fTup (fCons (fC (.str "go")) (fCons (fC (.int 11)) fNil))) fNil))))))))))))) fNil))) (gN 1)) (sSeq (sAsg (fTup (fCons (fCall (g_next_count) (fCons (fVar 1) (fCons (fC (.int 0)) (fCons (fTup (fCons (fC (.int 0)) (fCons (fC (.int 0)) (fCons (fC (.int 0)) fNil)))) fNil)))) (fCons (fCallK (kwG 1 2 [0, 1]) (g_next_count) (fCons (fVar 1) fNil) (fCons (fC (.int 6)) (fCons (fTup (fCons (fC (.int 1)) (fCons (fC (.int 2)) (fCons (fC (.int 3)) fNil)))) fNil))) (fCons (fCall (g_count_events) (fCons (fVar 1) (fCons (fTup (fCons (fTup (fCons (fC (.int 1)) (fCons (fC (.int 2)) (fCons (fC (.int 3)) fNil)))) (fCons (fTup (fCons (fC (.int 0)) (fCons (fC (.int 0)) (fCons (fC (.int 0)) fNil)))) fNil))) fNil))) (fCons (fCallK (kwG 1 1 [0]) (g_count_events) (fCons (fVar 1) fNil) (fCons (fTup fNil) fNil)) fNil))))) (gN 2)) (sSeq (sIf (tNotF (tTru (fCall (g__law_same) (fCons (fVar 2) (fCons (fTup (fCons (fTup (fCons (fC (.str "meet")) (fCons (fC (.int 9)) (fCons (fTup (fCons (fC (.int 0)) (fCons (fC (.int 0)) (fCons (fC (.int 0)) fNil)))) fNil)))) (fCons (fTup (fCons (fC (.str "meet")) (fCons (fC (.int 9)) (fCons (fTup (fCons (fC (.int 1)) (fCons (fC (.int 2)) (fCons (fC (.int 0)) fNil)))) fNil)))) (fCons (fTup (fCons (fTup (fCons (fC (.str "a")) (fCons (fTup (fCons (fC (.int 0)) (fCons (fC (.int 0)) (fCons (fC (.int 0)) fNil)))) (fCons (fTup (fCons (fC (.int 3)) fNil)) fNil)))) (fCons (fTup (fCons (fC (.str "ever")) fNil)) fNil))) (fCons (fTup (fCons (fTup (fCons (fC (.str "a")) (fCons (fTup (fCons (fC (.int 0)) (fCons (fC (.int 0)) (fCons (fC (.int 0)) fNil)))) fNil))) fNil)) fNil))))) fNil))))) (sRet (fC (.bl false))) (fun env hp => .nx env hp)) (sSeq (sFor (iRange1 (fCons (fCall gMax2 (fCons (fC (.int 5)) (fCons (fCall gMin2 (fCons (fCall gLen (fCons (fVar 0) fNil)) (fCons (fC (.int 9)) fNil))) fNil))) fNil)) (gN 3) b_law_3) (sRet (fC (.bl true)))))))
def g_law : OpN := runDef 1 12 b_law
theorem sc_law : FnScope ["script", "far", "heard", "k", "box", "turn", "counts", "spot", "place", "numbers", "feed", "top"] ["script"] (defScope s_law) := ⟨rfl, rfl, rfl, by decide +kernel, rfl, by decide +kernel, by decide +kernel⟩
section
variable {P : Program} {w : World} {K : PySem.W.Frag} {mg : Str → Option Value} {base : Heap} {f : Addr} {fd : FuncData}
theorem ok_number_at (F : Fun K "number_at" "number_at" s_number_at f fd) : FnOk P w K mg base CX0 (0 + 1) f fd ["numbers", "spot", "number"] (spD K w 3 g_number_at) :=
  okD F sc_number_at fun cdv A outer s H E hr => (dss_one (d_ret (d_bin o_add s_add (d_bin o_add s_add (d_slice (d_var 0) dp_none (dp_some (d_var 1))) (d_tup (da_cons (d_var 2) da_nil))) (d_slice (d_var 0) (dp_some (d_bin o_add s_add (d_var 1) d_int)) dp_none))))
theorem ok_count_behind (q_number_at : CalD P w K mg base 1 "number_at" g_number_at) (F : Fun K "count_behind" "count_behind" s_count_behind f fd) : FnOk P w K mg base CX0 (1 + 1) f fd ["counts", "row", "place", "numbers"] (spD K w 4 g_count_behind) :=
  okD F sc_count_behind fun cdv A outer s H E hr => (dss_cons (d_ifS (d_tcmpR (o_eq hr.units) s_eq (d_ix (u10 hr) (d_var 1) d_int) d_str (nomark _)) (dss_one (d_ret (d_tup (da_cons (d_ix (u10 hr) (d_var 1) d_int) (da_cons (d_var 3) da_nil))))) dss_nil) (dss_cons (d_set 4 sc_count_behind.nd (d_ix (u10 hr) (d_var 3) (d_ix (u10 hr) (d_var 1) d_int))) (dss_cons (d_ifS (d_tcmpR (o_eq hr.units) s_eq (d_ix (u10 hr) (d_var 1) d_int) d_str (nomark _)) (dss_one (d_ret (d_tup (da_cons (d_if (d_tcmpR (o_eq hr.units) s_eq (d_var 4) d_int (nomark _)) (d_ix (u10 hr) (d_var 1) d_int) (d_bin o_add s_add (d_var 2) d_int)) (da_cons (d_var 3) da_nil))))) dss_nil) (dss_cons (d_set 5 sc_count_behind.nd (d_if (d_tcmpR (o_eq hr.units) s_eq (d_ix (u10 hr) (d_var 1) d_int) d_str (nomark _)) d_int (d_bin op_mod s_mod (d_bin o_add s_add (d_var 4) d_int) (d_bin o_add s_add (d_ix (u10 hr) (d_ix (u10 hr) (d_var 0) d_int) (d_ix (u10 hr) (d_var 1) d_int)) d_int)))) (dss_one (d_ret (d_tup (da_cons (d_bin o_add s_add (d_var 2) d_int) (da_cons (d_call q_number_at hr (by omega) (da_cons (d_var 3) (da_cons (d_ix (u10 hr) (d_var 1) d_int) (da_cons (d_var 5) da_nil)))) da_nil)))))))))
theorem ok_next_count (k_CALL : Kst K mg "CALL" c_CALL) (k_MEET : Kst K mg "MEET" c_MEET) (k_END : Kst K mg "END" c_END) (k_EVER : Kst K mg "EVER" c_EVER) (q_count_behind : CalD P w K mg base 2 "count_behind" g_count_behind) (F : Fun K "next_count" "next_count" s_next_count f fd) : FnOk P w K mg base CX0 (2 + 1) f fd ["counts", "place", "numbers"] (spD K w 3 g_next_count) :=
  okD F sc_next_count fun cdv A outer s H E hr => (dss_cons (d_par2 3 4 rfl sc_next_count.nd (da_cons d_dct0 (da_cons (d_ix (u10 hr) (d_var 0) d_int) da_nil))) (dss_cons (d_while PassesOwn.never (d_tcmpR (o_notin (u65 hr)) (s_in true) (d_tup (da_cons (d_var 1) (da_cons (d_var 2) da_nil))) (d_var 3) (by with_unfolding_all rfl)) (dss_cons (d_ifS (d_tcmpR (o_in (u65 hr)) (s_in false) (d_ix (u10 hr) (d_ix (u10 hr) (d_var 4) (d_var 1)) d_int) (d_tup (da_cons (d_glob k_MEET) (da_cons (d_glob k_CALL) da_nil))) (by with_unfolding_all rfl)) (dss_one (d_ret (d_tup (da_cons (d_ix (u10 hr) (d_ix (u10 hr) (d_var 4) (d_var 1)) d_int) (da_cons (d_var 1) (da_cons (d_var 2) da_nil)))))) dss_nil) (dss_cons (d_ifS (d_tcmpR (o_eq hr.units) s_eq (d_ix (u10 hr) (d_ix (u10 hr) (d_var 4) (d_var 1)) d_int) (d_glob k_END) (nomark _)) (dss_one (d_ret (d_tup (da_cons (d_glob k_END) da_nil)))) dss_nil) (dss_cons (d_asg d_bl (dg_sub (o_put (u10 hr)) s_put (d_var 3) (d_tup (da_cons (d_var 1) (da_cons (d_var 2) da_nil))))) (dss_one (d_asg (d_call q_count_behind hr (by omega) (da_cons (d_var 0) (da_cons (d_ix (u10 hr) (d_var 4) (d_var 1)) (da_cons (d_var 1) (da_cons (d_var 2) da_nil))))) (dg_tup 2 rfl (dgs_cons (dg_name 1 sc_next_count.nd) (dgs_cons (dg_name 2 sc_next_count.nd) dgs_nil))))))))) (dss_one (d_ret (d_tup (da_cons (d_glob k_EVER) da_nil))))))
theorem ok_count_events (m_len : mg "len" = none) (m_tuple : mg "tuple" = none) (m_enumerate : mg "enumerate" = none) (k_MEET : Kst K mg "MEET" c_MEET) (q_next_count : CalD P w K mg base 3 "next_count" g_next_count) (F : Fun K "count_events" "count_events" s_count_events f fd) : FnOk P w K mg base CX0 (3 + 1) f fd ["counts", "feed"] (spD K w 2 g_count_events) :=
  okD F sc_count_events fun cdv A outer s H E hr => (dss_cons (d_par3 2 3 4 rfl sc_count_events.nd (da_cons d_int (da_cons (d_bin o_mul s_mul (d_tup (da_cons d_int da_nil)) (d_callB call_len s_len m_len (da_cons (d_ix (u10 hr) (d_var 0) d_int) da_nil))) (da_cons (d_lst da_nil) da_nil)))) (dss_cons (d_for PassesOwn.never rfl (di_seq (d_bin o_add s_add (d_callTy call_tuple_of s_tuple m_tuple (da_cons (d_var 1) da_nil)) (d_tup (da_cons d_non da_nil)))) (dg_name 5 sc_count_events.nd) (dss_cons (d_set 6 sc_count_events.nd (d_call q_next_count hr (by omega) (da_cons (d_var 0) (da_cons (d_var 2) (da_cons (d_var 3) da_nil))))) (dss_cons (d_ifS (d_tcmpR (o_ne hr.units) s_ne (d_ix (u10 hr) (d_var 6) d_int) (d_glob k_MEET) (nomark _)) (dss_one (d_ret (d_callTy call_tuple_of s_tuple m_tuple (da_cons (d_bin o_add s_add (d_var 4) (d_lst (da_cons (d_var 6) da_nil))) da_nil)))) dss_nil) (dss_cons (d_asg (d_slice (d_ix (u10 hr) (d_ix (u10 hr) (d_var 0) d_int) (d_ix (u10 hr) (d_var 6) d_int)) (dp_some d_int) dp_none) (dg_tup 2 rfl (dgs_cons (dg_name 7 sc_count_events.nd) (dgs_cons (dg_name 8 sc_count_events.nd) dgs_nil)))) (dss_cons (d_ifS (d_tcmpR o_is s_is (d_var 5) d_non (nomark _)) (dss_one (d_ret (d_callTy call_tuple_of s_tuple m_tuple (da_cons (d_bin o_add s_add (d_var 4) (d_lst (da_cons (d_tup (da_cons (d_var 7) (da_cons (d_ix (u10 hr) (d_var 6) d_int) da_nil))) da_nil))) da_nil)))) dss_nil) (dss_cons (d_expr (d_bm PySem.F.plainAttrs_list PySem.F.slot_list_append PySem.F.type_list_append mt_append s_append isL_ty (d_var 4) (da_cons (d_tup (da_cons (d_var 7) (da_cons (d_ix (u10 hr) (d_var 6) d_int) (da_cons (d_callTy call_tuple_of s_tuple m_tuple (da_cons (d_lc [("spot", 9)] rfl sc_count_events.nd (di_seq (d_var 8)) (by rfl) (fun _ _ _ _ _ => (dg_name 9 sc_count_events.nd)) (fun _ _ _ _ _ => d_yes) (fun _ _ _ _ _ => (d_ix (u10 hr) (d_var 5) (d_var 9)))) da_nil)) da_nil)))) da_nil))) (dss_cons (d_set 2 sc_count_events.nd (d_bin o_add s_add (d_ix (u10 hr) (d_var 6) d_int) d_int)) (dss_one (d_set 3 sc_count_events.nd (d_callTy call_tuple_of s_tuple m_tuple (da_cons (d_lc [("spot", 9), ("number", 10)] rfl sc_count_events.nd (di_enum m_enumerate (da_cons (d_ix (u10 hr) (d_var 6) d_int) da_nil)) (by rfl) (fun _ _ _ _ _ => (dg_tup 2 rfl (dgs_cons (dg_name 9 sc_count_events.nd) (dgs_cons (dg_name 10 sc_count_events.nd) dgs_nil)))) (fun _ _ _ _ _ => d_yes) (fun _ _ _ _ _ => (d_if (d_tcmpR (o_in (u65 hr)) (s_in false) (d_var 9) (d_var 8) (by with_unfolding_all rfl)) (d_ix (u10 hr) (d_var 5) (d_var 9)) (d_var 10)))) da_nil))))))))))) (dss_one (d_ret (d_callTy call_tuple_of s_tuple m_tuple (da_cons (d_var 4) da_nil))))))
theorem ok__law_box (m_len : mg "len" = none) (m_abs : mg "abs" = none) (m_int : mg "int" = none) (F : Fun K "_law_box" "_law_box" s__law_box f fd) : FnOk P w K mg base CX0 (0 + 1) f fd ["script", "k"] (spD K w 2 g__law_box) :=
  okD F sc__law_box fun cdv A outer s H E hr => (dss_cons (d_set 2 sc__law_box.nd (d_bin o_add s_add (d_bin o_mul s_mul d_int (d_var 1)) d_int)) (dss_cons (d_ifS (d_tcmpR (o_lt hr.units0) s_lt (d_var 1) (d_callB call_len s_len m_len (da_cons (d_var 0) da_nil)) (nomark _)) (dss_one (d_set 2 sc__law_box.nd (d_callB call_abs s_abs m_abs (da_cons (d_callTy call_int1 s_int m_int (da_cons (d_ix (u10 hr) (d_var 0) (d_var 1)) da_nil)) da_nil)))) (dss_one (d_ifS (d_tcmpR op_gt s_gt (d_callB call_len s_len m_len (da_cons (d_var 0) da_nil)) d_int (nomark _)) (dss_one (d_set 2 sc__law_box.nd (d_bin o_add s_add (d_var 2) (d_bin o_mul s_mul (d_bin op_mod s_mod (d_callTy call_int1 s_int m_int (da_cons (d_callB call_abs s_abs m_abs (da_cons (d_callTy call_int1 s_int m_int (da_cons (d_ix (u10 hr) (d_var 0) (d_bin op_mod s_mod (d_callTy call_int1 s_int m_int (da_cons (d_var 1) da_nil)) (d_callB call_len s_len m_len (da_cons (d_var 0) da_nil)))) da_nil)) da_nil)) da_nil)) d_int) d_int)))) dss_nil))) (dss_cons (d_set 3 sc__law_box.nd (d_if (d_tcmpR op_ge s_ge (d_var 2) (d_bin op_pow s_pow d_int d_int) (nomark _)) (d_var 2) d_int)) (dss_one (d_ret (d_lst (da_cons (d_var 3) (da_cons (d_bin o_add s_add (d_bin op_mod s_mod (d_callTy call_int1 s_int m_int (da_cons (d_bin o_add s_add (d_bin o_mul s_mul (d_bin op_mod s_mod (d_callTy call_int1 s_int m_int (da_cons (d_var 2) da_nil)) d_int) d_int) (d_bin o_mul s_mul d_int (d_var 1))) da_nil)) d_int) d_int) da_nil))))))))
theorem ok__law_take (m_int : mg "int" = none) (F : Fun K "_law_take" "_law_take" s__law_take f fd) : FnOk P w K mg base CX0 (0 + 1) f fd ["box", "many"] (spD K w 2 g__law_take) :=
  okD F sc__law_take fun cdv A outer s H E hr => (dss_cons (d_ifS (d_tcmpR op_gt s_gt (d_ix (u10 hr) (d_var 0) d_int) d_int (nomark _)) (dss_cons (d_set 2 sc__law_take.nd (d_bin op_mod s_mod (d_callTy call_int1 s_int m_int (da_cons (d_ix (u10 hr) (d_var 0) d_int) da_nil)) (d_var 1))) (dss_cons (d_asg (d_bin op_fdivW s_div (d_ix (u10 hr) (d_var 0) d_int) (d_var 1)) (dg_sub (o_put (u10 hr)) s_put (d_var 0) d_int)) (dss_one (d_ret (d_var 2))))) dss_nil) (dss_cons (d_set 3 sc__law_take.nd (d_bin op_mod s_mod (d_callTy call_int1 s_int m_int (da_cons (d_bin o_add s_add (d_bin o_mul s_mul (d_ix (u10 hr) (d_var 0) d_int) d_int) d_int) da_nil)) d_int)) (dss_cons (d_asg (d_bin o_add s_add (d_bin op_mod s_mod (d_callTy call_int1 s_int m_int (da_cons (d_bin o_add s_add (d_bin o_mul s_mul (d_var 3) d_int) d_int) da_nil)) d_int) d_int) (dg_sub (o_put (u10 hr)) s_put (d_var 0) d_int)) (dss_one (d_ret (d_bin op_mod s_mod (d_callTy call_int1 s_int m_int (da_cons (d_bin op_fdivW s_div (d_bin o_add s_add (d_bin o_mul s_mul (d_var 3) d_int) (d_ix (u10 hr) (d_var 0) d_int)) d_int) da_nil)) (d_var 1)))))))
theorem ok__law_pick (m_len : mg "len" = none) (q__law_take : CalD P w K mg base 1 "_law_take" g__law_take) (F : Fun K "_law_pick" "_law_pick" s__law_pick f fd) : FnOk P w K mg base CX0 (1 + 1) f fd ["box", "some"] (spD K w 2 g__law_pick) :=
  okD F sc__law_pick fun cdv A outer s H E hr => (dss_one (d_ret (d_ix (u10 hr) (d_var 1) (d_call q__law_take hr (by omega) (da_cons (d_var 0) (da_cons (d_callB call_len s_len m_len (da_cons (d_var 1) da_nil)) da_nil))))))
theorem t__law_same (m_isinstance : mg "isinstance" = none) (m_tuple : mg "tuple" = none) (m_len : mg "len" = none) (m_zip : mg "zip" = none) (m_bool : mg "bool" = none) (m_int : mg "int" = none) (m_str : mg "str" = none) {k : Nat} (hk : 0 ≤ k) (q__law_same : ∀ F : OpN, F = r__law_same (k - 0) → CalD P w K mg base k "_law_same" F) (F : Fun K "_law_same" "_law_same" s__law_same f fd) : FnOk P w K mg base CX0 (k + 1) f fd ["told", "due"] (spD K w 2 (r__law_same (k - 0 + 1))) :=
  okD F sc__law_same fun cdv A outer s H E hr => (dss_cons (d_ifS (d_ttru (d_callB call_isiY s_isi m_isinstance (da_cons (d_var 1) (da_cons (d_type m_tuple) da_nil)))) (dss_one (d_ret (d_andT (d_callB call_isiY s_isi m_isinstance (da_cons (d_var 0) (da_cons (d_type m_tuple) da_nil))) (d_andT (d_cmpR (o_eq hr.units) s_eq (d_callB call_len s_len m_len (da_cons (d_var 0) da_nil)) (d_callB call_len s_len m_len (da_cons (d_var 1) da_nil)) (nomark _)) (d_one (d_cmpR (o_eq hr.units) s_eq (d_lc [("one", 2), ("other", 3)] rfl sc__law_same.nd (di_zip m_zip (da_cons (d_var 0) (da_cons (d_var 1) da_nil))) (by rfl) (fun _ _ _ _ _ => (dg_tup 2 rfl (dgs_cons (dg_name 2 sc__law_same.nd) (dgs_cons (dg_name 3 sc__law_same.nd) dgs_nil)))) (fun _ _ _ _ _ => (pts_one (d_tnot (d_ttru (d_call (q__law_same _ rfl) hr (Nat.le_refl _) (da_cons (d_var 2) (da_cons (d_var 3) da_nil))))))) (fun _ _ _ _ _ => d_int)) (d_lst da_nil) (nomark _))))))) dss_nil) (dss_cons (d_ifS (PW.pt (d_tor (d_tcmpR o_is s_is (d_var 1) d_non (nomark _)) (d_or1 (d_tcmpR o_is s_is (d_var 0) d_non (nomark _))))) (dss_one (d_ret (d_andT (d_cmpR o_is s_is (d_var 1) d_non (nomark _)) (d_one (d_cmpR o_is s_is (d_var 0) d_non (nomark _)))))) dss_nil) (dss_cons (d_ifS (PW.pt (d_tor (d_ttru (d_callB call_isiY s_isi m_isinstance (da_cons (d_var 1) (da_cons (d_type m_bool) da_nil)))) (d_or1 (d_ttru (d_callB call_isiY s_isi m_isinstance (da_cons (d_var 0) (da_cons (d_type m_bool) da_nil))))))) (dss_one (d_ret (d_andT (d_callB call_isiY s_isi m_isinstance (da_cons (d_var 1) (da_cons (d_type m_bool) da_nil))) (d_andT (d_callB call_isiY s_isi m_isinstance (da_cons (d_var 0) (da_cons (d_type m_bool) da_nil))) (d_one (d_cmpR (o_eq hr.units) s_eq (d_var 0) (d_var 1) (nomark _))))))) dss_nil) (dss_one (d_ret (d_andT (d_if (d_ttru (d_callB call_isiY s_isi m_isinstance (da_cons (d_var 1) (da_cons (d_type m_int) da_nil)))) (d_callB call_isiY s_isi m_isinstance (da_cons (d_var 0) (da_cons (d_type m_int) da_nil))) (d_callB call_isiY s_isi m_isinstance (da_cons (d_var 0) (da_cons (d_type m_str) da_nil)))) (d_one (d_cmpR (o_eq hr.units) s_eq (d_var 0) (d_var 1) (nomark _)))))))))
theorem ok__law_same (m_isinstance : mg "isinstance" = none) (m_tuple : mg "tuple" = none) (m_len : mg "len" = none) (m_zip : mg "zip" = none) (m_bool : mg "bool" = none) (m_int : mg "int" = none) (m_str : mg "str" = none) (F : Fun K "_law_same" "_law_same" s__law_same f fd) (b : Binds K fd ["told", "due"] []) (hm : mg "_law_same" = some (.ref f)) : ∀ k : Nat, FnOk P w K mg base CX0 (k + 0) f fd ["told", "due"] (spD K w 2 (r__law_same k))
  | 0 => ok_fail
  | k + 1 => by
    have ih := ok__law_same m_isinstance m_tuple m_len m_zip m_bool m_int m_str F b hm k
    have h := t__law_same m_isinstance m_tuple m_len m_zip m_bool m_int m_str (k := k + 0) (Nat.le_add_left _ _) (fun F0 e => by rw [e, Nat.add_sub_cancel]; exact calG ih (recD_len _) hm F.kp b) F
    rw [Nat.add_sub_cancel] at h
    rw [Nat.add_right_comm]
    exact h
theorem ok__law_mixed (m_list : mg "list" = none) (m_range : mg "range" = none) (m_len : mg "len" = none) (q__law_take : CalD P w K mg base 1 "_law_take" g__law_take) (F : Fun K "_law_mixed" "_law_mixed" s__law_mixed f fd) : FnOk P w K mg base CX0 (1 + 1) f fd ["box", "some"] (spD K w 2 g__law_mixed) :=
  okD F sc__law_mixed fun cdv A outer s H E hr => (dss_cons (d_par2 2 3 rfl sc__law_mixed.nd (da_cons (d_callTy call_list_of s_list m_list (da_cons (d_var 1) da_nil)) (da_cons (d_lst da_nil) da_nil))) (dss_cons (d_for PassesOwn.never rfl (di_range1 m_range (da_cons (d_callB call_len s_len m_len (da_cons (d_var 1) da_nil)) da_nil)) (dg_name 4 sc__law_mixed.nd) (dss_one (d_expr (d_bm PySem.F.plainAttrs_list PySem.F.slot_list_append PySem.F.type_list_append mt_append s_append isL_ty (d_var 3) (da_cons (d_bm PySem.F.plainAttrs_list PySem.F.slot_list_pop PySem.F.type_list_pop mt_popAt s_popAt isL_ty (d_var 2) (da_cons (d_call q__law_take hr (by omega) (da_cons (d_var 0) (da_cons (d_callB call_len s_len m_len (da_cons (d_var 2) da_nil)) da_nil))) da_nil)) da_nil))))) (dss_one (d_ret (d_var 3)))))
theorem ok__law_lot (m_tuple : mg "tuple" = none) (m_sorted : mg "sorted" = none) (m_dict : mg "dict" = none) (F : Fun K "_law_lot" "_law_lot" s__law_lot f fd) : FnOk P w K mg base CX0 (0 + 1) f fd ["some"] (spD K w 1 g__law_lot) :=
  okD F sc__law_lot fun cdv A outer s H E hr => (dss_one (d_ret (d_callTy call_tuple_of s_tuple m_tuple (da_cons (d_callB (cr_sortedG rfl hr.units) s_sortedG m_sorted (da_cons (d_callTy (cr_dict rfl hr.units) s_dict m_dict (da_cons (d_lc [("one", 1)] rfl sc__law_lot.nd (di_seq (d_var 0)) (by rfl) (fun _ _ _ _ _ => (dg_name 1 sc__law_lot.nd)) (fun _ _ _ _ _ => d_yes) (fun _ _ _ _ _ => (d_tup (da_cons (d_var 1) (da_cons d_int da_nil))))) da_nil)) da_nil)) da_nil))))
theorem ok__law_feed (m_tuple : mg "tuple" = none) (m_range : mg "range" = none) (q__law_take : CalD P w K mg base 1 "_law_take" g__law_take) (F : Fun K "_law_feed" "_law_feed" s__law_feed f fd) : FnOk P w K mg base CX0 (1 + 1) f fd ["box", "tops", "many"] (spD K w 3 g__law_feed) :=
  okD F sc__law_feed fun cdv A outer s H E hr => (dss_one (d_ret (d_callTy call_tuple_of s_tuple m_tuple (da_cons (d_lc [("turn", 3)] rfl sc__law_feed.nd (di_range1 m_range (da_cons (d_var 2) da_nil)) (by rfl) (fun _ _ _ _ _ => (dg_name 3 sc__law_feed.nd)) (fun _ _ _ _ _ => d_yes) (fun _ _ _ _ _ => (d_callTy call_tuple_of s_tuple m_tuple (da_cons (d_lc [("top", 4)] rfl sc__law_feed.nd (di_seq (d_var 1)) (by rfl) (fun _ _ _ _ _ => (dg_name 4 sc__law_feed.nd)) (fun _ _ _ _ _ => d_yes) (fun _ _ _ _ _ => (d_call q__law_take hr (by omega) (da_cons (d_var 0) (da_cons (d_bin o_add s_add (d_var 4) d_int) da_nil))))) da_nil)))) da_nil))))
theorem ok__law_count_next (m_range : mg "range" = none) (m_len : mg "len" = none) (F : Fun K "_law_count_next" "_law_count_next" s__law_count_next f fd) : FnOk P w K mg base CX0 (0 + 1) f fd ["counts", "place", "numbers"] (spD K w 3 g__law_count_next) :=
  okD F sc__law_count_next fun cdv A outer s H E hr => (dss_cons (d_asg (d_var 0) (dg_tup 2 rfl (dgs_cons (dg_name 3 sc__law_count_next.nd) (dgs_cons (dg_name 4 sc__law_count_next.nd) dgs_nil)))) (dss_cons (d_for PassesOwn.never rfl (di_range1 m_range (da_cons (d_bin o_add s_add (d_bin o_mul s_mul (d_callB call_len s_len m_len (da_cons (d_var 4) da_nil)) d_int) d_int) da_nil)) (dg_name 5 sc__law_count_next.nd) (dss_cons (d_set 6 sc__law_count_next.nd (d_ix (u10 hr) (d_var 4) (d_var 1))) (dss_cons (d_ifS (d_tcmpR (o_in (u65 hr)) (s_in false) (d_ix (u10 hr) (d_var 6) d_int) (d_tup (da_cons d_str (da_cons d_str (da_cons d_str da_nil)))) (by with_unfolding_all rfl)) (dss_one (d_ret (d_if (d_tcmpR (o_eq hr.units) s_eq (d_ix (u10 hr) (d_var 6) d_int) d_str (nomark _)) (d_tup (da_cons d_str da_nil)) (d_tup (da_cons (d_ix (u10 hr) (d_var 6) d_int) (da_cons (d_var 1) (da_cons (d_var 2) da_nil))))))) dss_nil) (dss_cons (d_ifS (d_tcmpR (o_in (u65 hr)) (s_in false) (d_ix (u10 hr) (d_var 6) d_int) (d_tup (da_cons d_str (da_cons d_str da_nil))) (by with_unfolding_all rfl)) (dss_cons (d_set 7 sc__law_count_next.nd (d_if (PW.pt (d_tor (d_tcmpR (o_eq hr.units) s_eq (d_ix (u10 hr) (d_var 6) d_int) d_str (nomark _)) (d_or1 (d_tcmpR (o_eq hr.units) s_eq (d_ix (u10 hr) (d_var 2) (d_ix (u10 hr) (d_var 6) d_int)) (d_ix (u10 hr) (d_var 3) (d_ix (u10 hr) (d_var 6) d_int)) (nomark _))))) d_int (d_bin o_add s_add (d_ix (u10 hr) (d_var 2) (d_ix (u10 hr) (d_var 6) d_int)) d_int))) (dss_one (d_set 2 sc__law_count_next.nd (d_bin o_add s_add (d_bin o_add s_add (d_slice (d_var 2) dp_none (dp_some (d_ix (u10 hr) (d_var 6) d_int))) (d_tup (da_cons (d_var 7) da_nil))) (d_slice (d_var 2) (dp_some (d_bin o_add s_add (d_ix (u10 hr) (d_var 6) d_int) d_int)) dp_none))))) dss_nil) (dss_one (d_set 1 sc__law_count_next.nd (d_if (d_tcmpR (o_eq hr.units) s_eq (d_ix (u10 hr) (d_var 6) d_int) d_str (nomark _)) (d_ix (u10 hr) (d_var 6) d_int) (d_if (PW.pt (d_tand (d_tcmpR (o_eq hr.units) s_eq (d_ix (u10 hr) (d_var 6) d_int) d_str (nomark _)) (d_and1 (d_tcmpR (o_eq hr.units) s_eq (d_ix (u10 hr) (d_var 2) (d_ix (u10 hr) (d_var 6) d_int)) d_int (nomark _))))) (d_ix (u10 hr) (d_var 6) d_int) (d_bin o_add s_add (d_var 1) d_int))))))))) (dss_one (d_ret (d_tup (da_cons d_str da_nil))))))
theorem ok__law_count_events (m_len : mg "len" = none) (m_tuple : mg "tuple" = none) (m_enumerate : mg "enumerate" = none) (q__law_count_next : CalD P w K mg base 1 "_law_count_next" g__law_count_next) (F : Fun K "_law_count_events" "_law_count_events" s__law_count_events f fd) : FnOk P w K mg base CX0 (1 + 1) f fd ["counts", "feed"] (spD K w 2 g__law_count_events) :=
  okD F sc__law_count_events fun cdv A outer s H E hr => (dss_cons (d_par3 2 3 4 rfl sc__law_count_events.nd (da_cons d_int (da_cons (d_bin o_mul s_mul (d_tup (da_cons d_int da_nil)) (d_callB call_len s_len m_len (da_cons (d_ix (u10 hr) (d_var 0) d_int) da_nil))) (da_cons (d_tup da_nil) da_nil)))) (dss_cons (d_for PassesOwn.never rfl (di_seq (d_bin o_add s_add (d_callTy call_tuple_of s_tuple m_tuple (da_cons (d_var 1) da_nil)) (d_tup (da_cons d_non da_nil)))) (dg_name 5 sc__law_count_events.nd) (dss_cons (d_set 6 sc__law_count_events.nd (d_call q__law_count_next hr (by omega) (da_cons (d_var 0) (da_cons (d_var 2) (da_cons (d_var 3) da_nil))))) (dss_cons (d_ifS (d_tcmpR (o_ne hr.units) s_ne (d_ix (u10 hr) (d_var 6) d_int) d_str (nomark _)) (dss_one (d_ret (d_bin o_add s_add (d_var 4) (d_tup (da_cons (d_var 6) da_nil))))) dss_nil) (dss_cons (d_asg (d_tup (da_cons (d_ix (u10 hr) (d_ix (u10 hr) (d_var 0) d_int) (d_ix (u10 hr) (d_var 6) d_int)) (da_cons (d_bin o_add s_add (d_ix (u10 hr) (d_var 6) d_int) d_int) (da_cons (d_ix (u10 hr) (d_var 6) d_int) da_nil)))) (dg_tup 3 rfl (dgs_cons (dg_name 7 sc__law_count_events.nd) (dgs_cons (dg_name 2 sc__law_count_events.nd) (dgs_cons (dg_name 3 sc__law_count_events.nd) dgs_nil))))) (dss_cons (d_ifS (d_tcmpR o_is s_is (d_var 5) d_non (nomark _)) (dss_one (d_ret (d_bin o_add s_add (d_var 4) (d_tup (da_cons (d_tup (da_cons (d_ix (u10 hr) (d_var 7) d_int) (da_cons (d_var 3) da_nil))) da_nil))))) dss_nil) (dss_cons (d_set 4 sc__law_count_events.nd (d_bin o_add s_add (d_var 4) (d_tup (da_cons (d_tup (da_cons (d_ix (u10 hr) (d_var 7) d_int) (da_cons (d_var 3) (da_cons (d_callTy call_tuple_of s_tuple m_tuple (da_cons (d_lc [("spot", 8)] rfl sc__law_count_events.nd (di_seq (d_ix (u10 hr) (d_var 7) d_int)) (by rfl) (fun _ _ _ _ _ => (dg_name 8 sc__law_count_events.nd)) (fun _ _ _ _ _ => d_yes) (fun _ _ _ _ _ => (d_ix (u10 hr) (d_var 5) (d_var 8)))) da_nil)) da_nil)))) da_nil)))) (dss_one (d_set 3 sc__law_count_events.nd (d_callTy call_tuple_of s_tuple m_tuple (da_cons (d_lc [("spot", 8), ("number", 9)] rfl sc__law_count_events.nd (di_enum m_enumerate (da_cons (d_var 3) da_nil)) (by rfl) (fun _ _ _ _ _ => (dg_tup 2 rfl (dgs_cons (dg_name 8 sc__law_count_events.nd) (dgs_cons (dg_name 9 sc__law_count_events.nd) dgs_nil)))) (fun _ _ _ _ _ => d_yes) (fun _ _ _ _ _ => (d_if (d_tcmpR (o_in (u65 hr)) (s_in false) (d_var 8) (d_ix (u10 hr) (d_var 7) d_int) (by with_unfolding_all rfl)) (d_ix (u10 hr) (d_var 5) (d_var 8)) (d_var 9)))) da_nil)))))))))) (dss_one (d_ret (d_var 4)))))
theorem ok__law_any_counts (m_tuple : mg "tuple" = none) (m_range : mg "range" = none) (m_len : mg "len" = none) (m_list : mg "list" = none) (q__law_take : CalD P w K mg base 1 "_law_take" g__law_take) (q__law_lot : CalD P w K mg base 1 "_law_lot" g__law_lot) (q__law_pick : CalD P w K mg base 2 "_law_pick" g__law_pick) (q__law_mixed : CalD P w K mg base 2 "_law_mixed" g__law_mixed) (F : Fun K "_law_any_counts" "_law_any_counts" s__law_any_counts f fd) : FnOk P w K mg base CX0 (2 + 1) f fd ["box", "calls"] (spD K w 2 g__law_any_counts) :=
  okD F sc__law_any_counts fun cdv A outer s H E hr => (dss_cons (d_asg (d_tup (da_cons (d_callTy call_tuple_of s_tuple m_tuple (da_cons (d_lc [("variable", 9)] rfl sc__law_any_counts.nd (di_range1 m_range (da_cons (d_bin o_add s_add d_int (d_call q__law_take hr (by omega) (da_cons (d_var 0) (da_cons d_int da_nil)))) da_nil)) (by rfl) (fun _ _ _ _ _ => (dg_name 9 sc__law_any_counts.nd)) (fun _ _ _ _ _ => d_yes) (fun _ _ _ _ _ => (d_bin o_add s_add d_int (d_call q__law_take hr (by omega) (da_cons (d_var 0) (da_cons d_int da_nil)))))) da_nil)) (da_cons (d_bin o_add s_add d_int (d_call q__law_take hr (by omega) (da_cons (d_var 0) (da_cons d_int da_nil)))) da_nil))) (dg_tup 2 rfl (dgs_cons (dg_name 2 sc__law_any_counts.nd) (dgs_cons (dg_name 3 sc__law_any_counts.nd) dgs_nil)))) (dss_cons (d_set 4 sc__law_any_counts.nd (d_lst da_nil)) (dss_cons (d_for PassesOwn.never rfl (di_range1 m_range (da_cons (d_var 3) da_nil)) (dg_name 5 sc__law_any_counts.nd) (dss_cons (d_par2 6 7 rfl sc__law_any_counts.nd (da_cons (d_call q__law_take hr (by omega) (da_cons (d_var 0) (da_cons (d_callB call_len s_len m_len (da_cons (d_var 2) da_nil)) da_nil))) (da_cons (d_call q__law_take hr (by omega) (da_cons (d_var 0) (da_cons (d_var 3) da_nil))) da_nil))) (dss_cons (d_set 8 sc__law_any_counts.nd (d_lst (da_cons (d_tup (da_cons d_str (da_cons (d_var 6) da_nil))) (da_cons (d_tup (da_cons d_str (da_cons (d_var 6) da_nil))) (da_cons (d_tup (da_cons d_str (da_cons (d_var 6) da_nil))) (da_cons (d_tup (da_cons d_str (da_cons (d_var 6) (da_cons (d_var 7) da_nil)))) (da_cons (d_tup (da_cons d_str (da_cons (d_var 6) (da_cons (d_var 7) da_nil)))) (da_cons (d_tup (da_cons d_str (da_cons (d_var 7) da_nil))) (da_cons (d_tup (da_cons d_str (da_cons (d_call q__law_pick hr (by omega) (da_cons (d_var 0) (da_cons (d_lst (da_cons d_str (da_cons d_str da_nil))) da_nil))) (da_cons (d_call q__law_lot hr (by omega) (da_cons (d_lc [("turn", 10)] rfl sc__law_any_counts.nd (di_range1 m_range (da_cons (d_call q__law_take hr (by omega) (da_cons (d_var 0) (da_cons d_int da_nil))) da_nil)) (by rfl) (fun _ _ _ _ _ => (dg_name 10 sc__law_any_counts.nd)) (fun _ _ _ _ _ => d_yes) (fun _ _ _ _ _ => (d_call q__law_take hr (by omega) (da_cons (d_var 0) (da_cons (d_callB call_len s_len m_len (da_cons (d_var 2) da_nil)) da_nil))))) da_nil)) da_nil)))) da_nil))))))))) (dss_cons (d_set 8 sc__law_any_counts.nd (d_bin o_add s_add (d_bin o_add s_add (d_var 8) (d_lst (da_cons (d_tup (da_cons d_str da_nil)) da_nil))) (d_bin o_mul s_mul (d_lst (da_cons (d_tup (da_cons d_str (da_cons (d_call q__law_take hr (by omega) (da_cons (d_var 0) (da_cons d_int da_nil))) (da_cons (d_callTy call_tuple_of s_tuple m_tuple (da_cons (d_slice (d_call q__law_mixed hr (by omega) (da_cons (d_var 0) (da_cons (d_lstRg rfl m_list (d_rg1 m_range (d_callB call_len s_len m_len (da_cons (d_var 2) da_nil)))) da_nil))) dp_none (dp_some (d_call q__law_take hr (by omega) (da_cons (d_var 0) (da_cons d_int da_nil))))) da_nil)) da_nil)))) da_nil)) (d_var 1)))) (dss_one (d_expr (d_bm PySem.F.plainAttrs_list PySem.F.slot_list_append PySem.F.type_list_append mt_append s_append isL_ty (d_var 4) (da_cons (d_if (d_tcmpR (o_lt hr.units0) s_lt (d_var 5) (d_bin op_sub s_sub (d_var 3) d_int) (nomark _)) (d_call q__law_pick hr (by omega) (da_cons (d_var 0) (da_cons (d_var 8) da_nil))) (d_call q__law_pick hr (by omega) (da_cons (d_var 0) (da_cons (d_lst (da_cons (d_tup (da_cons d_str da_nil)) (da_cons (d_tup (da_cons d_str (da_cons (d_var 7) da_nil))) (da_cons (d_tup (da_cons d_str (da_cons d_int da_nil))) da_nil)))) da_nil)))) da_nil)))))))) (dss_one (d_ret (d_tup (da_cons (d_var 2) (da_cons (d_callTy call_tuple_of s_tuple m_tuple (da_cons (d_var 4) da_nil)) da_nil))))))))
theorem ok_law (m_range : mg "range" = none) (m_max : mg "max" = none) (m_min : mg "min" = none) (m_len : mg "len" = none) (m_tuple : mg "tuple" = none) (q_count_events : CalD P w K mg base 4 "count_events" g_count_events) (q_next_count : CalD P w K mg base 3 "next_count" g_next_count) (q__law_same : CalD P w K mg base 40 "_law_same" g__law_same) (q__law_box : CalD P w K mg base 1 "_law_box" g__law_box) (q__law_any_counts : CalD P w K mg base 3 "_law_any_counts" g__law_any_counts) (q__law_take : CalD P w K mg base 1 "_law_take" g__law_take) (q__law_count_next : CalD P w K mg base 1 "_law_count_next" g__law_count_next) (q__law_feed : CalD P w K mg base 2 "_law_feed" g__law_feed) (q__law_count_events : CalD P w K mg base 2 "_law_count_events" g__law_count_events) (ck_count_events_1_feed : CalK P w K mg base 4 "count_events" ["feed"] (kwG 1 1 [0]) g_count_events) (ck_next_count_1_place_numbers : CalK P w K mg base 3 "next_count" ["place", "numbers"] (kwG 1 2 [0, 1]) g_next_count) (F : Fun K "law" "law" s_law f fd) : FnOk P w K mg base CX0 (40 + 1) f fd ["script"] (spD K w 1 g_law) :=
  okD F sc_law fun cdv A outer s H E hr => (dss_cons (d_set 1 sc_law.nd (d_tup (da_cons (d_tup (da_cons d_int (da_cons d_int (da_cons d_int da_nil)))) (da_cons (d_tup (da_cons (d_tup (da_cons d_str (da_cons d_int da_nil))) (da_cons (d_tup (da_cons d_str (da_cons d_int (da_cons d_int da_nil)))) (da_cons (d_tup (da_cons d_str (da_cons d_int da_nil))) (da_cons (d_tup (da_cons d_str (da_cons d_int da_nil))) (da_cons (d_tup (da_cons d_str (da_cons d_int (da_cons d_int da_nil)))) (da_cons (d_tup (da_cons d_str (da_cons d_int da_nil))) (da_cons (d_tup (da_cons d_str (da_cons d_int da_nil))) (da_cons (d_tup (da_cons d_str (da_cons d_int (da_cons d_int da_nil)))) (da_cons (d_tup (da_cons d_str (da_cons d_int da_nil))) (da_cons (d_tup (da_cons d_str (da_cons d_str (da_cons (d_tup (da_cons d_int da_nil)) da_nil)))) (da_cons (d_tup (da_cons d_str (da_cons d_int da_nil))) (da_cons (d_tup (da_cons d_str (da_cons d_int da_nil))) da_nil))))))))))))) da_nil)))) (dss_cons (d_set 2 sc_law.nd (d_tup (da_cons (d_call q_next_count hr (by omega) (da_cons (d_var 1) (da_cons d_int (da_cons (d_tup (da_cons d_int (da_cons d_int (da_cons d_int da_nil)))) da_nil)))) (da_cons (d_callK ck_next_count_1_place_numbers hr (by omega) (da_cons (d_var 1) da_nil) (dk_cons d_int (dk_cons (d_tup (da_cons d_int (da_cons d_int (da_cons d_int da_nil)))) dk_nil))) (da_cons (d_call q_count_events hr (by omega) (da_cons (d_var 1) (da_cons (d_tup (da_cons (d_tup (da_cons d_int (da_cons d_int (da_cons d_int da_nil)))) (da_cons (d_tup (da_cons d_int (da_cons d_int (da_cons d_int da_nil)))) da_nil))) da_nil))) (da_cons (d_callK ck_count_events_1_feed hr (by omega) (da_cons (d_var 1) da_nil) (dk_cons (d_tup da_nil) dk_nil)) da_nil)))))) (dss_cons (d_ifS (d_tnot (d_ttru (d_call q__law_same hr (by omega) (da_cons (d_var 2) (da_cons (d_tup (da_cons (d_tup (da_cons d_str (da_cons d_int (da_cons (d_tup (da_cons d_int (da_cons d_int (da_cons d_int da_nil)))) da_nil)))) (da_cons (d_tup (da_cons d_str (da_cons d_int (da_cons (d_tup (da_cons d_int (da_cons d_int (da_cons d_int da_nil)))) da_nil)))) (da_cons (d_tup (da_cons (d_tup (da_cons d_str (da_cons (d_tup (da_cons d_int (da_cons d_int (da_cons d_int da_nil)))) (da_cons (d_tup (da_cons d_int da_nil)) da_nil)))) (da_cons (d_tup (da_cons d_str da_nil)) da_nil))) (da_cons (d_tup (da_cons (d_tup (da_cons d_str (da_cons (d_tup (da_cons d_int (da_cons d_int (da_cons d_int da_nil)))) da_nil))) da_nil)) da_nil))))) da_nil))))) (dss_one (d_ret d_bl)) dss_nil) (dss_cons (d_for PassesOwn.never rfl (di_range1 m_range (da_cons (d_callB (call_max2 rfl) s_max2 m_max (da_cons d_int (da_cons (d_callB (call_min2 rfl) s_min2 m_min (da_cons (d_callB call_len s_len m_len (da_cons (d_var 0) da_nil)) (da_cons d_int da_nil))) da_nil))) da_nil)) (dg_name 3 sc_law.nd) (dss_cons (d_set 4 sc_law.nd (d_call q__law_box hr (by omega) (da_cons (d_var 0) (da_cons (d_var 3) da_nil)))) (dss_one (d_for PassesOwn.never rfl (di_range1 m_range (da_cons d_int da_nil)) (dg_name 5 sc_law.nd) (dss_cons (d_set 6 sc_law.nd (d_call q__law_any_counts hr (by omega) (da_cons (d_var 4) (da_cons (d_bin op_mod s_mod (d_var 5) d_int) da_nil)))) (dss_cons (d_for PassesOwn.never rfl (di_range1 m_range (da_cons d_int da_nil)) (dg_name 7 sc_law.nd) (dss_cons (d_par2 8 9 rfl sc_law.nd (da_cons (d_call q__law_take hr (by omega) (da_cons (d_var 4) (da_cons (d_callB call_len s_len m_len (da_cons (d_ix (u10 hr) (d_var 6) d_int) da_nil)) da_nil))) (da_cons (d_callTy call_tuple_of s_tuple m_tuple (da_cons (d_lc [("top", 11)] rfl sc_law.nd (di_seq (d_ix (u10 hr) (d_var 6) d_int)) (by rfl) (fun _ _ _ _ _ => (dg_name 11 sc_law.nd)) (fun _ _ _ _ _ => d_yes) (fun _ _ _ _ _ => (d_call q__law_take hr (by omega) (da_cons (d_var 4) (da_cons (d_bin o_add s_add (d_var 11) d_int) da_nil))))) da_nil)) da_nil))) (dss_one (d_ifS (d_tnot (d_ttru (d_call q__law_same hr (by omega) (da_cons (d_call q_next_count hr (by omega) (da_cons (d_var 6) (da_cons (d_var 8) (da_cons (d_var 9) da_nil)))) (da_cons (d_call q__law_count_next hr (by omega) (da_cons (d_var 6) (da_cons (d_var 8) (da_cons (d_var 9) da_nil)))) da_nil))))) (dss_one (d_ret d_bl)) dss_nil)))) (dss_cons (d_set 10 sc_law.nd (d_call q__law_feed hr (by omega) (da_cons (d_var 4) (da_cons (d_ix (u10 hr) (d_var 6) d_int) (da_cons (d_call q__law_take hr (by omega) (da_cons (d_var 4) (da_cons d_int da_nil))) da_nil))))) (dss_one (d_ifS (PW.pt (d_tand (d_tcmpR (o_eq hr.units) s_eq (d_bin op_mod s_mod (d_var 5) d_int) d_int (nomark _)) (d_and1 (d_tnot (d_ttru (d_call q__law_same hr (by omega) (da_cons (d_call q_count_events hr (by omega) (da_cons (d_var 6) (da_cons (d_var 10) da_nil))) (da_cons (d_call q__law_count_events hr (by omega) (da_cons (d_var 6) (da_cons (d_var 10) da_nil))) da_nil)))))))) (dss_one (d_ret d_bl)) dss_nil))))))))) (dss_one (d_ret d_bl))))))
end
theorem all_mk {l : PySem.W.OpenLaw} {w : World} {K : PySem.W.Frag} {h : Heap} {mg : Str → Option Value} {fa : Addr} (X : K.In h) (G : h.Ns mainGlobals mg) (hfa : mg "law" = some (.ref fa))
    {f0 : Addr} {od0 an0 : Option Addr} {sl0 : Array (Option Value)} {oc0 kV0 dc0 pm0 cd0 ct0 : Value}
    {f1 : Addr} {od1 an1 : Option Addr} {sl1 : Array (Option Value)} {oc1 kV1 dc1 pm1 cd1 ct1 : Value}
    {f2 : Addr} {od2 an2 : Option Addr} {sl2 : Array (Option Value)} {oc2 kV2 dc2 pm2 cd2 ct2 : Value}
    {f3 : Addr} {od3 an3 : Option Addr} {sl3 : Array (Option Value)} {oc3 kV3 dc3 pm3 cd3 ct3 : Value}
    {f4 : Addr} {od4 an4 : Option Addr} {sl4 : Array (Option Value)} {oc4 kV4 dc4 pm4 cd4 ct4 : Value}
    {f5 : Addr} {od5 an5 : Option Addr} {sl5 : Array (Option Value)} {oc5 kV5 dc5 pm5 cd5 ct5 : Value}
    {f6 : Addr} {od6 an6 : Option Addr} {sl6 : Array (Option Value)} {oc6 kV6 dc6 pm6 cd6 ct6 : Value}
    {f7 : Addr} {od7 an7 : Option Addr} {sl7 : Array (Option Value)} {oc7 kV7 dc7 pm7 cd7 ct7 : Value}
    {f8 : Addr} {od8 an8 : Option Addr} {sl8 : Array (Option Value)} {oc8 kV8 dc8 pm8 cd8 ct8 : Value}
    {f9 : Addr} {od9 an9 : Option Addr} {sl9 : Array (Option Value)} {oc9 kV9 dc9 pm9 cd9 ct9 : Value}
    {f10 : Addr} {od10 an10 : Option Addr} {sl10 : Array (Option Value)} {oc10 kV10 dc10 pm10 cd10 ct10 : Value}
    {f11 : Addr} {od11 an11 : Option Addr} {sl11 : Array (Option Value)} {oc11 kV11 dc11 pm11 cd11 ct11 : Value}
    {f12 : Addr} {od12 an12 : Option Addr} {sl12 : Array (Option Value)} {oc12 kV12 dc12 pm12 cd12 ct12 : Value}
    {f13 : Addr} {od13 an13 : Option Addr} {sl13 : Array (Option Value)} {oc13 kV13 dc13 pm13 cd13 ct13 : Value}
    {f14 : Addr} {od14 an14 : Option Addr} {sl14 : Array (Option Value)} {oc14 kV14 dc14 pm14 cd14 ct14 : Value}
    {t_MEET : Tok}
    {t_CALL : Tok}
    {t_END : Tok}
    {t_EVER : Tok}
    (a0 : PySem.W.nsIn K mainGlobals "number_at" = some (some (.ref f0)))
    (l0 : K.lookup f0 = some ⟨oc0, od0, .func (PySem.W.fnOf "number_at" "number_at" (defArgs s_number_at) (defBody s_number_at) (defScope s_number_at) .none kV0 dc0 pm0 an0 cd0 ct0), sl0⟩)
    (c0 : PySem.W.codeIn K cd0 "number_at" = true)
    (k0 : PySem.W.keepIn K (.ref f0) = true)
    (a1 : PySem.W.nsIn K mainGlobals "count_behind" = some (some (.ref f1)))
    (l1 : K.lookup f1 = some ⟨oc1, od1, .func (PySem.W.fnOf "count_behind" "count_behind" (defArgs s_count_behind) (defBody s_count_behind) (defScope s_count_behind) .none kV1 dc1 pm1 an1 cd1 ct1), sl1⟩)
    (c1 : PySem.W.codeIn K cd1 "count_behind" = true)
    (k1 : PySem.W.keepIn K (.ref f1) = true)
    (a2 : PySem.W.nsIn K mainGlobals "next_count" = some (some (.ref f2)))
    (l2 : K.lookup f2 = some ⟨oc2, od2, .func (PySem.W.fnOf "next_count" "next_count" (defArgs s_next_count) (defBody s_next_count) (defScope s_next_count) .none kV2 dc2 pm2 an2 cd2 ct2), sl2⟩)
    (c2 : PySem.W.codeIn K cd2 "next_count" = true)
    (k2 : PySem.W.keepIn K (.ref f2) = true)
    (a3 : PySem.W.nsIn K mainGlobals "count_events" = some (some (.ref f3)))
    (l3 : K.lookup f3 = some ⟨oc3, od3, .func (PySem.W.fnOf "count_events" "count_events" (defArgs s_count_events) (defBody s_count_events) (defScope s_count_events) .none kV3 dc3 pm3 an3 cd3 ct3), sl3⟩)
    (c3 : PySem.W.codeIn K cd3 "count_events" = true)
    (k3 : PySem.W.keepIn K (.ref f3) = true)
    (a4 : PySem.W.nsIn K mainGlobals "_law_box" = some (some (.ref f4)))
    (l4 : K.lookup f4 = some ⟨oc4, od4, .func (PySem.W.fnOf "_law_box" "_law_box" (defArgs s__law_box) (defBody s__law_box) (defScope s__law_box) .none kV4 dc4 pm4 an4 cd4 ct4), sl4⟩)
    (c4 : PySem.W.codeIn K cd4 "_law_box" = true)
    (k4 : PySem.W.keepIn K (.ref f4) = true)
    (a5 : PySem.W.nsIn K mainGlobals "_law_take" = some (some (.ref f5)))
    (l5 : K.lookup f5 = some ⟨oc5, od5, .func (PySem.W.fnOf "_law_take" "_law_take" (defArgs s__law_take) (defBody s__law_take) (defScope s__law_take) .none kV5 dc5 pm5 an5 cd5 ct5), sl5⟩)
    (c5 : PySem.W.codeIn K cd5 "_law_take" = true)
    (k5 : PySem.W.keepIn K (.ref f5) = true)
    (a6 : PySem.W.nsIn K mainGlobals "_law_pick" = some (some (.ref f6)))
    (l6 : K.lookup f6 = some ⟨oc6, od6, .func (PySem.W.fnOf "_law_pick" "_law_pick" (defArgs s__law_pick) (defBody s__law_pick) (defScope s__law_pick) .none kV6 dc6 pm6 an6 cd6 ct6), sl6⟩)
    (c6 : PySem.W.codeIn K cd6 "_law_pick" = true)
    (k6 : PySem.W.keepIn K (.ref f6) = true)
    (a7 : PySem.W.nsIn K mainGlobals "_law_same" = some (some (.ref f7)))
    (l7 : K.lookup f7 = some ⟨oc7, od7, .func (PySem.W.fnOf "_law_same" "_law_same" (defArgs s__law_same) (defBody s__law_same) (defScope s__law_same) .none kV7 dc7 pm7 an7 cd7 ct7), sl7⟩)
    (c7 : PySem.W.codeIn K cd7 "_law_same" = true)
    (k7 : PySem.W.keepIn K (.ref f7) = true)
    (a8 : PySem.W.nsIn K mainGlobals "_law_mixed" = some (some (.ref f8)))
    (l8 : K.lookup f8 = some ⟨oc8, od8, .func (PySem.W.fnOf "_law_mixed" "_law_mixed" (defArgs s__law_mixed) (defBody s__law_mixed) (defScope s__law_mixed) .none kV8 dc8 pm8 an8 cd8 ct8), sl8⟩)
    (c8 : PySem.W.codeIn K cd8 "_law_mixed" = true)
    (k8 : PySem.W.keepIn K (.ref f8) = true)
    (a9 : PySem.W.nsIn K mainGlobals "_law_lot" = some (some (.ref f9)))
    (l9 : K.lookup f9 = some ⟨oc9, od9, .func (PySem.W.fnOf "_law_lot" "_law_lot" (defArgs s__law_lot) (defBody s__law_lot) (defScope s__law_lot) .none kV9 dc9 pm9 an9 cd9 ct9), sl9⟩)
    (c9 : PySem.W.codeIn K cd9 "_law_lot" = true)
    (k9 : PySem.W.keepIn K (.ref f9) = true)
    (a10 : PySem.W.nsIn K mainGlobals "_law_feed" = some (some (.ref f10)))
    (l10 : K.lookup f10 = some ⟨oc10, od10, .func (PySem.W.fnOf "_law_feed" "_law_feed" (defArgs s__law_feed) (defBody s__law_feed) (defScope s__law_feed) .none kV10 dc10 pm10 an10 cd10 ct10), sl10⟩)
    (c10 : PySem.W.codeIn K cd10 "_law_feed" = true)
    (k10 : PySem.W.keepIn K (.ref f10) = true)
    (a11 : PySem.W.nsIn K mainGlobals "_law_count_next" = some (some (.ref f11)))
    (l11 : K.lookup f11 = some ⟨oc11, od11, .func (PySem.W.fnOf "_law_count_next" "_law_count_next" (defArgs s__law_count_next) (defBody s__law_count_next) (defScope s__law_count_next) .none kV11 dc11 pm11 an11 cd11 ct11), sl11⟩)
    (c11 : PySem.W.codeIn K cd11 "_law_count_next" = true)
    (k11 : PySem.W.keepIn K (.ref f11) = true)
    (a12 : PySem.W.nsIn K mainGlobals "_law_count_events" = some (some (.ref f12)))
    (l12 : K.lookup f12 = some ⟨oc12, od12, .func (PySem.W.fnOf "_law_count_events" "_law_count_events" (defArgs s__law_count_events) (defBody s__law_count_events) (defScope s__law_count_events) .none kV12 dc12 pm12 an12 cd12 ct12), sl12⟩)
    (c12 : PySem.W.codeIn K cd12 "_law_count_events" = true)
    (k12 : PySem.W.keepIn K (.ref f12) = true)
    (a13 : PySem.W.nsIn K mainGlobals "_law_any_counts" = some (some (.ref f13)))
    (l13 : K.lookup f13 = some ⟨oc13, od13, .func (PySem.W.fnOf "_law_any_counts" "_law_any_counts" (defArgs s__law_any_counts) (defBody s__law_any_counts) (defScope s__law_any_counts) .none kV13 dc13 pm13 an13 cd13 ct13), sl13⟩)
    (c13 : PySem.W.codeIn K cd13 "_law_any_counts" = true)
    (k13 : PySem.W.keepIn K (.ref f13) = true)
    (a14 : PySem.W.nsIn K mainGlobals "law" = some (some (.ref f14)))
    (l14 : K.lookup f14 = some ⟨oc14, od14, .func (PySem.W.fnOf "law" "law" (defArgs s_law) (defBody s_law) (defScope s_law) .none kV14 dc14 pm14 an14 cd14 ct14), sl14⟩)
    (c14 : PySem.W.codeIn K cd14 "law" = true)
    (k14 : PySem.W.keepIn K (.ref f14) = true)
    (z_abs : PySem.W.nsIn K mainGlobals "abs" = some none)
    (z_bool : PySem.W.nsIn K mainGlobals "bool" = some none)
    (z_dict : PySem.W.nsIn K mainGlobals "dict" = some none)
    (z_enumerate : PySem.W.nsIn K mainGlobals "enumerate" = some none)
    (z_int : PySem.W.nsIn K mainGlobals "int" = some none)
    (z_isinstance : PySem.W.nsIn K mainGlobals "isinstance" = some none)
    (z_len : PySem.W.nsIn K mainGlobals "len" = some none)
    (z_list : PySem.W.nsIn K mainGlobals "list" = some none)
    (z_max : PySem.W.nsIn K mainGlobals "max" = some none)
    (z_min : PySem.W.nsIn K mainGlobals "min" = some none)
    (z_range : PySem.W.nsIn K mainGlobals "range" = some none)
    (z_sorted : PySem.W.nsIn K mainGlobals "sorted" = some none)
    (z_str : PySem.W.nsIn K mainGlobals "str" = some none)
    (z_tuple : PySem.W.nsIn K mainGlobals "tuple" = some none)
    (z_zip : PySem.W.nsIn K mainGlobals "zip" = some none)
    (e_MEET : PySem.W.nsIn K mainGlobals "MEET" = some (some (.str "meet" t_MEET)))
    (e_CALL : PySem.W.nsIn K mainGlobals "CALL" = some (some (.str "call" t_CALL)))
    (e_END : PySem.W.nsIn K mainGlobals "END" = some (some (.str "end" t_END)))
    (e_EVER : PySem.W.nsIn K mainGlobals "EVER" = some (some (.str "ever" t_EVER)))
    : ∃ fd : FuncData, (∀ (s : Shared) (v : Value), BindsTo s fd ⟨[v], []⟩ [("script", v)]) ∧ ∀ base : Heap, K.In base → base.Ns mainGlobals mg → FnOk l.prog w K mg base CX0 41 fa fd ["script"] (spD K w 1 g_law) := by
  have e := hfa.symm.trans (PySem.W.mg_of X G a14)
  cases e
  have m_abs := PySem.W.mg_none_of X G z_abs
  have m_bool := PySem.W.mg_none_of X G z_bool
  have m_dict := PySem.W.mg_none_of X G z_dict
  have m_enumerate := PySem.W.mg_none_of X G z_enumerate
  have m_int := PySem.W.mg_none_of X G z_int
  have m_isinstance := PySem.W.mg_none_of X G z_isinstance
  have m_len := PySem.W.mg_none_of X G z_len
  have m_list := PySem.W.mg_none_of X G z_list
  have m_max := PySem.W.mg_none_of X G z_max
  have m_min := PySem.W.mg_none_of X G z_min
  have m_range := PySem.W.mg_none_of X G z_range
  have m_sorted := PySem.W.mg_none_of X G z_sorted
  have m_str := PySem.W.mg_none_of X G z_str
  have m_tuple := PySem.W.mg_none_of X G z_tuple
  have m_zip := PySem.W.mg_none_of X G z_zip
  have k_MEET : Kst K mg "MEET" c_MEET := ⟨.str "meet", _, PySem.W.mg_of X G e_MEET, ⟨_, rfl⟩, fun _ _ => .str _⟩
  have k_CALL : Kst K mg "CALL" c_CALL := ⟨.str "call", _, PySem.W.mg_of X G e_CALL, ⟨_, rfl⟩, fun _ _ => .str _⟩
  have k_END : Kst K mg "END" c_END := ⟨.str "end", _, PySem.W.mg_of X G e_END, ⟨_, rfl⟩, fun _ _ => .str _⟩
  have k_EVER : Kst K mg "EVER" c_EVER := ⟨.str "ever", _, PySem.W.mg_of X G e_EVER, ⟨_, rfl⟩, fun _ _ => .str _⟩
  have F0 := fun_mk (st := s_number_at) l0 c0 k0
  have b0 := F0.binds (ps := ["numbers", "spot", "number"]) fun _ _ _ _ _ _ us hl => match us, hl with | [_, _, _], _ => rfl
  have F1 := fun_mk (st := s_count_behind) l1 c1 k1
  have b1 := F1.binds (ps := ["counts", "row", "place", "numbers"]) fun _ _ _ _ _ _ us hl => match us, hl with | [_, _, _, _], _ => rfl
  have F2 := fun_mk (st := s_next_count) l2 c2 k2
  have b2 := F2.binds (ps := ["counts", "place", "numbers"]) fun _ _ _ _ _ _ us hl => match us, hl with | [_, _, _], _ => rfl
  have F3 := fun_mk (st := s_count_events) l3 c3 k3
  have b3 := F3.binds (ps := ["counts", "feed"]) fun _ _ _ _ _ _ us hl => match us, hl with | [_, _], _ => rfl
  have F4 := fun_mk (st := s__law_box) l4 c4 k4
  have b4 := F4.binds (ps := ["script", "k"]) fun _ _ _ _ _ _ us hl => match us, hl with | [_, _], _ => rfl
  have F5 := fun_mk (st := s__law_take) l5 c5 k5
  have b5 := F5.binds (ps := ["box", "many"]) fun _ _ _ _ _ _ us hl => match us, hl with | [_, _], _ => rfl
  have F6 := fun_mk (st := s__law_pick) l6 c6 k6
  have b6 := F6.binds (ps := ["box", "some"]) fun _ _ _ _ _ _ us hl => match us, hl with | [_, _], _ => rfl
  have F7 := fun_mk (st := s__law_same) l7 c7 k7
  have b7 := F7.binds (ps := ["told", "due"]) fun _ _ _ _ _ _ us hl => match us, hl with | [_, _], _ => rfl
  have F8 := fun_mk (st := s__law_mixed) l8 c8 k8
  have b8 := F8.binds (ps := ["box", "some"]) fun _ _ _ _ _ _ us hl => match us, hl with | [_, _], _ => rfl
  have F9 := fun_mk (st := s__law_lot) l9 c9 k9
  have b9 := F9.binds (ps := ["some"]) fun _ _ _ _ _ _ us hl => match us, hl with | [_], _ => rfl
  have F10 := fun_mk (st := s__law_feed) l10 c10 k10
  have b10 := F10.binds (ps := ["box", "tops", "many"]) fun _ _ _ _ _ _ us hl => match us, hl with | [_, _, _], _ => rfl
  have F11 := fun_mk (st := s__law_count_next) l11 c11 k11
  have b11 := F11.binds (ps := ["counts", "place", "numbers"]) fun _ _ _ _ _ _ us hl => match us, hl with | [_, _, _], _ => rfl
  have F12 := fun_mk (st := s__law_count_events) l12 c12 k12
  have b12 := F12.binds (ps := ["counts", "feed"]) fun _ _ _ _ _ _ us hl => match us, hl with | [_, _], _ => rfl
  have F13 := fun_mk (st := s__law_any_counts) l13 c13 k13
  have b13 := F13.binds (ps := ["box", "calls"]) fun _ _ _ _ _ _ us hl => match us, hl with | [_, _], _ => rfl
  have F14 := fun_mk (st := s_law) l14 c14 k14
  refine ⟨PySem.W.fnOf "law" "law" (defArgs s_law) (defBody s_law) (defScope s_law) .none kV14 dc14 pm14 an14 cd14 ct14, fun s v => .of_eq rfl, fun base _ _ => ?_⟩
  have o_number_at : FnOk l.prog w K mg base CX0 1 _ _ ["numbers", "spot", "number"] (spD K w 3 g_number_at) := ok_number_at (P := l.prog) (w := w) (base := base)  F0
  have q_number_at : CalD l.prog w K mg base 1 "number_at" g_number_at := calG o_number_at (fun _ _ _ _ => runDef_len) (PySem.W.mg_of X G a0) F0.kp b0
  have o__law_box : FnOk l.prog w K mg base CX0 1 _ _ ["script", "k"] (spD K w 2 g__law_box) := ok__law_box (P := l.prog) (w := w) (base := base) m_len m_abs m_int F4
  have q__law_box : CalD l.prog w K mg base 1 "_law_box" g__law_box := calG o__law_box (fun _ _ _ _ => runDef_len) (PySem.W.mg_of X G a4) F4.kp b4
  have o__law_take : FnOk l.prog w K mg base CX0 1 _ _ ["box", "many"] (spD K w 2 g__law_take) := ok__law_take (P := l.prog) (w := w) (base := base) m_int F5
  have q__law_take : CalD l.prog w K mg base 1 "_law_take" g__law_take := calG o__law_take (fun _ _ _ _ => runDef_len) (PySem.W.mg_of X G a5) F5.kp b5
  have o__law_lot : FnOk l.prog w K mg base CX0 1 _ _ ["some"] (spD K w 1 g__law_lot) := ok__law_lot (P := l.prog) (w := w) (base := base) m_tuple m_sorted m_dict F9
  have q__law_lot : CalD l.prog w K mg base 1 "_law_lot" g__law_lot := calG o__law_lot (fun _ _ _ _ => runDef_len) (PySem.W.mg_of X G a9) F9.kp b9
  have o__law_count_next : FnOk l.prog w K mg base CX0 1 _ _ ["counts", "place", "numbers"] (spD K w 3 g__law_count_next) := ok__law_count_next (P := l.prog) (w := w) (base := base) m_range m_len F11
  have q__law_count_next : CalD l.prog w K mg base 1 "_law_count_next" g__law_count_next := calG o__law_count_next (fun _ _ _ _ => runDef_len) (PySem.W.mg_of X G a11) F11.kp b11
  have o_count_behind : FnOk l.prog w K mg base CX0 2 _ _ ["counts", "row", "place", "numbers"] (spD K w 4 g_count_behind) := ok_count_behind (P := l.prog) (w := w) (base := base) q_number_at F1
  have q_count_behind : CalD l.prog w K mg base 2 "count_behind" g_count_behind := calG o_count_behind (fun _ _ _ _ => runDef_len) (PySem.W.mg_of X G a1) F1.kp b1
  have o__law_pick : FnOk l.prog w K mg base CX0 2 _ _ ["box", "some"] (spD K w 2 g__law_pick) := ok__law_pick (P := l.prog) (w := w) (base := base) m_len q__law_take F6
  have q__law_pick : CalD l.prog w K mg base 2 "_law_pick" g__law_pick := calG o__law_pick (fun _ _ _ _ => runDef_len) (PySem.W.mg_of X G a6) F6.kp b6
  have o__law_mixed : FnOk l.prog w K mg base CX0 2 _ _ ["box", "some"] (spD K w 2 g__law_mixed) := ok__law_mixed (P := l.prog) (w := w) (base := base) m_list m_range m_len q__law_take F8
  have q__law_mixed : CalD l.prog w K mg base 2 "_law_mixed" g__law_mixed := calG o__law_mixed (fun _ _ _ _ => runDef_len) (PySem.W.mg_of X G a8) F8.kp b8
  have o__law_feed : FnOk l.prog w K mg base CX0 2 _ _ ["box", "tops", "many"] (spD K w 3 g__law_feed) := ok__law_feed (P := l.prog) (w := w) (base := base) m_tuple m_range q__law_take F10
  have q__law_feed : CalD l.prog w K mg base 2 "_law_feed" g__law_feed := calG o__law_feed (fun _ _ _ _ => runDef_len) (PySem.W.mg_of X G a10) F10.kp b10
  have o__law_count_events : FnOk l.prog w K mg base CX0 2 _ _ ["counts", "feed"] (spD K w 2 g__law_count_events) := ok__law_count_events (P := l.prog) (w := w) (base := base) m_len m_tuple m_enumerate q__law_count_next F12
  have q__law_count_events : CalD l.prog w K mg base 2 "_law_count_events" g__law_count_events := calG o__law_count_events (fun _ _ _ _ => runDef_len) (PySem.W.mg_of X G a12) F12.kp b12
  have o_next_count : FnOk l.prog w K mg base CX0 3 _ _ ["counts", "place", "numbers"] (spD K w 3 g_next_count) := ok_next_count (P := l.prog) (w := w) (base := base) k_CALL k_MEET k_END k_EVER q_count_behind F2
  have q_next_count : CalD l.prog w K mg base 3 "next_count" g_next_count := calG o_next_count (fun _ _ _ _ => runDef_len) (PySem.W.mg_of X G a2) F2.kp b2
  have ck_next_count_1_place_numbers : CalK l.prog w K mg base 3 "next_count" ["place", "numbers"] (kwG 1 2 [0, 1]) g_next_count := calK_of o_next_count (fun _ _ _ _ => runDef_len) (PySem.W.mg_of X G a2) F2.kp (by decide) fun s us ws h1 h2 _ => match us, ws, h1, h2 with | [_], [_, _], _, _ => .of_eq rfl
  have o__law_any_counts : FnOk l.prog w K mg base CX0 3 _ _ ["box", "calls"] (spD K w 2 g__law_any_counts) := ok__law_any_counts (P := l.prog) (w := w) (base := base) m_tuple m_range m_len m_list q__law_take q__law_lot q__law_pick q__law_mixed F13
  have q__law_any_counts : CalD l.prog w K mg base 3 "_law_any_counts" g__law_any_counts := calG o__law_any_counts (fun _ _ _ _ => runDef_len) (PySem.W.mg_of X G a13) F13.kp b13
  have o_count_events : FnOk l.prog w K mg base CX0 4 _ _ ["counts", "feed"] (spD K w 2 g_count_events) := ok_count_events (P := l.prog) (w := w) (base := base) m_len m_tuple m_enumerate k_MEET q_next_count F3
  have q_count_events : CalD l.prog w K mg base 4 "count_events" g_count_events := calG o_count_events (fun _ _ _ _ => runDef_len) (PySem.W.mg_of X G a3) F3.kp b3
  have ck_count_events_1_feed : CalK l.prog w K mg base 4 "count_events" ["feed"] (kwG 1 1 [0]) g_count_events := calK_of o_count_events (fun _ _ _ _ => runDef_len) (PySem.W.mg_of X G a3) F3.kp (by decide) fun s us ws h1 h2 _ => match us, ws, h1, h2 with | [_], [_], _, _ => .of_eq rfl
  have o__law_same : FnOk l.prog w K mg base CX0 40 _ _ ["told", "due"] (spD K w 2 g__law_same) := ok__law_same (P := l.prog) (w := w) (base := base) m_isinstance m_tuple m_len m_zip m_bool m_int m_str F7 b7 (PySem.W.mg_of X G a7) 40
  have q__law_same : CalD l.prog w K mg base 40 "_law_same" g__law_same := calG o__law_same (recD_len _) (PySem.W.mg_of X G a7) F7.kp b7
  exact ok_law (P := l.prog) (w := w) (base := base) m_range m_max m_min m_len m_tuple q_count_events q_next_count q__law_same q__law_box q__law_any_counts q__law_take q__law_count_next q__law_feed q__law_count_events ck_count_events_1_feed ck_next_count_1_place_numbers F14
end K23
set_option Elab.async false
set_option linter.all false
set_option maxRecDepth 100000
set_option maxHeartbeats 1000000
namespace K23
open PySem PySem.Spec PyProof.Rows L2 DL
/-! ### the counts, as plain Lean -/
inductive Row where
  | go (t : Nat) | test (s t : Nat) | zero (s : Nat) | up (s : Nat) | meet (x : Str) (tk : List Nat) | call (m : D) (xs : D) | fin
def nD (n : Nat) : D := .int (n : Int)
def natsD (ns : List Nat) : D := .tup (ns.map nD)
def Row.d : Row → D
  | .go t => .tup [.str "go", .int t]
  | .test s t => .tup [.str "test", .int s, .int t]
  | .zero s => .tup [.str "zero", .int s]
  | .up s => .tup [.str "up", .int s]
  | .meet x tk => .tup [.str "meet", .str x, natsD tk]
  | .call m xs => .tup [.str "call", m, xs]
  | .fin => .tup [.str "end"]
def cntD (tops : List Nat) (rows : List Row) : D := .tup [natsD tops, .tup (rows.map Row.d)]
abbrev Stt := Nat × List Nat
/-- one step, from a row that is none of the stops -/
def step (tops : List Nat) (r : Row) (p : Nat) (ns : List Nat) : Stt := match r with
  | .go t => (t, ns)
  | .test s t => (if ns[s]? = some 0 then t else p + 1, ns)
  | .zero s => (p + 1, ns.set s 0)
  | .up s => (p + 1, ns.set s ((ns.getD s 0 + 1) % (tops.getD s 0 + 1)))
  | _ => (p, ns)
def Row.plain : Row → Bool
  | .go _ | .test _ _ | .zero _ | .up _ => true
  | _ => false
def RowOk (tops : List Nat) (n p : Nat) : Row → Prop
  | .go t => t < n
  | .test s t => s < tops.length ∧ t < n ∧ p + 1 < n
  | .zero s => s < tops.length ∧ p + 1 < n
  | .up s => s < tops.length ∧ p + 1 < n
  | .meet _ tk => (∀ t ∈ tk, t < tops.length) ∧ p + 1 < n ∧ tk.length ≤ 3
  | .call _ _ => p + 1 < n
  | .fin => True
structure WF (tops : List Nat) (rows : List Row) : Prop where
  t1 : 1 ≤ tops.length
  t3 : tops.length ≤ 3
  top : ∀ t ∈ tops, 1 ≤ t ∧ t ≤ 3
  r1 : 1 ≤ rows.length
  r12 : rows.length ≤ 12
  ok : ∀ (p : Nat) (r : Row), rows[p]? = some r → RowOk tops rows.length p r
structure SOk (tops : List Nat) (rows : List Row) (p : Nat) (ns : List Nat) : Prop where
  pl : p < rows.length
  ln : ns.length = tops.length
  le : ∀ (i a b : Nat), ns[i]? = some a → tops[i]? = some b → a ≤ b
/-! the texts that are compared -/
theorem e_test_go : (("test" : Str) = "go") = False := by simp only [eq_iff_iff, iff_false]; decide +kernel
theorem e_zero_go : (("zero" : Str) = "go") = False := by simp only [eq_iff_iff, iff_false]; decide +kernel
theorem e_up_go : (("up" : Str) = "go") = False := by simp only [eq_iff_iff, iff_false]; decide +kernel
theorem e_zero_test : (("zero" : Str) = "test") = False := by simp only [eq_iff_iff, iff_false]; decide +kernel
theorem e_up_test : (("up" : Str) = "test") = False := by simp only [eq_iff_iff, iff_false]; decide +kernel
theorem e_up_zero : (("up" : Str) = "zero") = False := by simp only [eq_iff_iff, iff_false]; decide +kernel
theorem number_at_s {hp : Ht} {ns : List D} {s : Nat} {v : D} (h : ns.length ≤ 1000) (hs : s < ns.length) : g_number_at [.tup ns, .int s, v] hp = .ok (.tup (ns.set s v)) hp := by
  unfold g_number_at
  rw [runDef_e]
  have e1 : ((s : Int) + 1) = ((s + 1 : Nat) : Int) := rfl
  simp only [startD, b_number_at, List.map_cons, List.map_nil, List.length_cons, List.length_nil]
  simp
  rw [cutD_hi, e1, cutD_lo, gAdd_t (by simp; exact szn (by omega))]
  simp only [Out.ok_bind]
  rw [gAdd_t (by simp; exact szn (by omega))]
  simp only [Out.ok_so, ans_rt, Out.ok.injEq, D.tup.injEq, and_true]
  rw [List.set_eq_take_append_cons_drop, if_pos hs]
  simp
theorem nats_at {ns : List Nat} {s : Nat} {a : Nat} (h : ns[s]? = some a) : atI (ns.map nD) (s : Int) = some (.int a) :=
  atI_nat (by rw [List.getElem?_map, h]; rfl)
theorem count_behind_s {hp : Ht} {tops ns : List Nat} {rows : List Row} {r : Row} {p : Nat} (W : WF tops rows) (S : SOk tops rows p ns) (hr : rows[p]? = some r) (hpl : r.plain = true) :
    g_count_behind [cntD tops rows, r.d, .int p, natsD ns] hp = .ok (.tup [.int (step tops r p ns).1, natsD (step tops r p ns).2]) hp := by
  unfold g_count_behind
  rw [runDef_e]
  have hok := W.ok p r hr
  have hn : ∀ s, s < tops.length → ∃ a, ns[s]? = some a := fun s h => ⟨ns[s]'(by rw [S.ln]; exact h), List.getElem?_eq_getElem _⟩
  have ht : ∀ s, s < tops.length → ∃ a, tops[s]? = some a := fun s h => ⟨tops[s], List.getElem?_eq_getElem _⟩
  simp only [startD, b_count_behind, List.map_cons, List.map_nil, List.length_cons, List.length_nil]
  cases r with
  | go t => simp [Row.d, step]
  | test s t =>
    obtain ⟨h1, h2, h3⟩ := hok
    obtain ⟨a, ha⟩ := hn s h1
    simp [Row.d, step, e_test_go, natsD, nats_at ha, ha]
    by_cases c : a = 0
    · simp [c]
    · simp [c]
  | zero s =>
    obtain ⟨h1, h2⟩ := hok
    obtain ⟨a, ha⟩ := hn s h1
    have := number_at_s (hp := hp) (ns := ns.map nD) (s := s) (v := .int 0) (by simp; have := S.ln; have := W.t3; omega) (by simp [S.ln, h1])
    simp [Row.d, step, e_zero_go, e_zero_test, natsD, nats_at ha, this]
    rfl
  | up s =>
    obtain ⟨h1, h2⟩ := hok
    obtain ⟨a, ha⟩ := hn s h1
    obtain ⟨b, hb⟩ := ht s h1
    have hm : gMod (.int ((a : Int) + 1)) (.int ((b : Int) + 1)) hp = .ok (.int (((a + 1) % (b + 1) : Nat) : Int)) hp := by
      rw [gMod_i (by omega)]
      simp
    have := number_at_s (hp := hp) (ns := ns.map nD) (s := s) (v := .int (((a + 1) % (b + 1) : Nat) : Int)) (by simp; have := S.ln; have := W.t3; omega) (by simp [S.ln, h1])
    simp [Row.d, step, e_up_go, e_up_test, e_up_zero, natsD, nats_at ha, nats_at hb, cntD, hm, ha, hb]
    simp at this
    rw [this]
    simp [nD]
  | _ => cases hpl
end K23
set_option Elab.async false
set_option linter.all false
set_option maxRecDepth 100000
set_option maxHeartbeats 1000000
namespace K23
open PySem PySem.Spec PyProof.Rows L2 DL
/-! ### what comes next -/
inductive Stop where
  | meet (x : Str) (tk : List Nat) (p : Nat) (ns : List Nat)
  | call (p : Nat) (ns : List Nat)
  | fin
def Stop.d : Stop → D
  | .meet _ _ p ns => .tup [.str "meet", nD p, natsD ns]
  | .call p ns => .tup [.str "call", nD p, natsD ns]
  | .fin => .tup [.str "end"]
def stopAt (rows : List Row) (s : Stt) : Option Stop := match rows[s.1]? with
  | some (.meet x tk) => some (.meet x tk s.1 s.2)
  | some (.call _ _) => some (.call s.1 s.2)
  | some .fin => some .fin
  | _ => none
def next1 (tops : List Nat) (rows : List Row) (s : Stt) : Stt := match rows[s.1]? with
  | some r => step tops r s.1 s.2
  | none => s
/-- within so many steps -/
def look (tops : List Nat) (rows : List Row) : Nat → Stt → Option Stop
  | 0, _ => none
  | n + 1, s => match stopAt rows s with
    | some x => some x
    | none => look tops rows n (next1 tops rows s)
def everD : D := .tup [.str "ever"]
def lookD (tops : List Nat) (rows : List Row) (n : Nat) (s : Stt) : D := match look tops rows n s with
  | some x => x.d
  | none => everD
def sttD (s : Stt) : D := .tup [nD s.1, natsD s.2]
def nK (n : Nat) : NestedKey := .num (n : Int)
def sttK (s : Stt) : NestedKey := .tup [nK s.1, .tup (s.2.map nK)]
theorem keys_nats : ∀ ns : List Nat, toKeys (ns.map nD) = some (ns.map nK)
  | [] => by simp [toKeys]
  | n :: ns => by
    have ih := keys_nats ns
    simp only [List.map_cons, toKeys]
    rw [ih]
    simp [nD, nK, toKey]
theorem key_stt (s : Stt) : toKey (sttD s) = some (sttK s) := by
  unfold sttD sttK natsD
  simp only [toKey, toKeys]
  rw [keys_nats]
  simp [nD, nK, toKey]
theorem depth_nums : ∀ ns : List Nat, NestedKey.depthAll (ns.map nK) = 0
  | [] => by simp [NestedKey.depthAll]
  | n :: ns => by
    simp only [List.map_cons, NestedKey.depthAll, nK, NestedKey.depth]
    have := depth_nums ns
    simpa [nK] using this
theorem keyOf_stt (s : Stt) : keyOf (sttD s) = some (sttK s) := by
  unfold keyOf
  rw [key_stt]
  have : (sttK s).depth ≤ 8 := by
    unfold sttK
    simp only [NestedKey.depth, NestedKey.depthAll, depth_nums, nK]
    decide
  simp [this]
theorem nK_inj : ∀ {a b : List Nat}, a.map nK = b.map nK → a = b
  | [], [], _ => rfl
  | [], _ :: _, h => by simp at h
  | _ :: _, [], h => by simp at h
  | x :: a, y :: b, h => by
    simp only [List.map_cons, List.cons.injEq, nK, NestedKey.num.injEq, Int.natCast_inj] at h
    have := nK_inj (a := a) (b := b) h.2
    rw [h.1, this]
theorem sttK_inj {s t : Stt} (h : sttK s = sttK t) : s = t := by
  obtain ⟨p, ns⟩ := s
  obtain ⟨q, ms⟩ := t
  simp only [sttK, NestedKey.tup.injEq, List.cons.injEq, and_true] at h
  obtain ⟨h1, h2⟩ := h
  have e1 : p = q := by
    simp only [nK, NestedKey.num.injEq, Int.natCast_inj] at h1
    exact h1
  rw [e1, nK_inj h2]
/-- the dict of what was met -/
def metK (vs : List Stt) : List (D × D) := vs.map fun s => (sttD s, D.bl true)
theorem met_get (s : Stt) : ∀ vs : List Stt, (dGet (sttK s) (metK vs)).isSome = decide (s ∈ vs)
  | [] => by simp [metK, dGet]
  | v :: vs => by
    have ih := met_get s vs
    simp only [metK, List.map_cons, dGet, key_stt, Option.some.injEq] at ih ⊢
    by_cases c : v = s
    · subst c; simp
    · have c2 : sttK v ≠ sttK s := fun e => c (sttK_inj e)
      rw [if_neg c2, ih]
      have c3 : ¬ s = v := fun e => c e.symm
      simp [c3]
theorem met_put (s : Stt) : ∀ vs : List Stt, s ∉ vs → dPut (sttK s) (sttD s) (D.bl true) (metK vs) = metK (vs ++ [s])
  | [], _ => by simp [metK, dPut]
  | v :: vs, h => by
    have h2 : s ∉ vs := fun m => h (List.mem_cons_of_mem _ m)
    have ih := met_put s vs h2
    simp only [metK, List.map_cons, List.cons_append, dPut, key_stt, Option.some.injEq] at ih ⊢
    have c2 : sttK v ≠ sttK s := fun e => h (by rw [sttK_inj e]; exact List.mem_cons_self)
    rw [if_neg c2, ih]
/-! ### no more states than so many -/
theorem nodup_lt : ∀ (M : Nat) (l : List Nat), l.Nodup → (∀ x ∈ l, x < M) → l.length ≤ M
  | 0, l, _, h => by
    cases l with
    | nil => simp
    | cons x r => exact absurd (h x List.mem_cons_self) (Nat.not_lt_zero _)
  | M + 1, l, hn, h => by
    by_cases c : M ∈ l
    · have h1 := nodup_lt M (l.erase M) (hn.erase M) fun x hx => by
        have h2 := h x (List.mem_of_mem_erase hx)
        have h3 : x ≠ M := fun e => by
          subst e
          exact (List.Nodup.not_mem_erase hn) hx
        omega
      rw [List.length_erase_of_mem c] at h1
      omega
    · have h1 := nodup_lt M l hn fun x hx => by
        have h2 := h x hx
        have h3 : x ≠ M := fun e => c (e ▸ hx)
        omega
      omega
def code4 : List Nat → Nat
  | [] => 0
  | n :: ns => n + 4 * code4 ns
theorem code4_lt : ∀ (ns : List Nat), (∀ n ∈ ns, n < 4) → code4 ns < 4 ^ ns.length
  | [], _ => by simp [code4]
  | n :: ns, h => by
    have h1 := code4_lt ns fun x hx => h x (List.mem_cons_of_mem _ hx)
    have h2 := h n List.mem_cons_self
    simp only [code4, List.length_cons, Nat.pow_succ]
    omega
theorem code4_inj : ∀ (ns ms : List Nat), (∀ n ∈ ns, n < 4) → (∀ n ∈ ms, n < 4) → ns.length = ms.length → code4 ns = code4 ms → ns = ms
  | [], [], _, _, _, _ => rfl
  | [], _ :: _, _, _, h, _ => by simp at h
  | _ :: _, [], _, _, h, _ => by simp at h
  | n :: ns, m :: ms, h1, h2, hl, e => by
    have a1 := h1 n List.mem_cons_self
    have a2 := h2 m List.mem_cons_self
    simp only [code4] at e
    have := code4_inj ns ms (fun x hx => h1 x (List.mem_cons_of_mem _ hx)) (fun x hx => h2 x (List.mem_cons_of_mem _ hx)) (by simpa using hl) (by omega)
    rw [this, show n = m by omega]
theorem nodup_map {α β : Type} (f : α → β) : ∀ {l : List α}, (∀ x ∈ l, ∀ y ∈ l, f x = f y → x = y) → l.Nodup → (l.map f).Nodup
  | [], _, _ => List.nodup_nil
  | a :: l, hi, hn => by
    rw [List.nodup_cons] at hn
    rw [List.map_cons, List.nodup_cons]
    refine ⟨fun m => ?_, nodup_map f (fun x hx y hy => hi x (List.mem_cons_of_mem _ hx) y (List.mem_cons_of_mem _ hy)) hn.2⟩
    obtain ⟨x, hx, e⟩ := List.mem_map.mp m
    have := hi x (List.mem_cons_of_mem _ hx) a List.mem_cons_self e
    subst this
    exact hn.1 hx
section
variable {tops : List Nat} {rows : List Row}
theorem SOk.lt4 {p : Nat} {ns : List Nat} (W : WF tops rows) (S : SOk tops rows p ns) : ∀ n ∈ ns, n < 4 := by
  intro n hn
  obtain ⟨i, hi⟩ := List.getElem?_of_mem hn
  have hlt : i < tops.length := by rw [← S.ln]; exact (List.getElem?_eq_some_iff.mp hi).1
  have h1 := S.le i n tops[i] hi (List.getElem?_eq_getElem hlt)
  have h2 := W.top tops[i] (List.getElem_mem hlt)
  omega
theorem states_le (W : WF tops rows) {vs : List Stt} (hn : vs.Nodup) (h : ∀ s ∈ vs, SOk tops rows s.1 s.2) : vs.length ≤ rows.length * 64 := by
  have h1 := nodup_lt (rows.length * 64) (vs.map fun s => s.1 * 64 + code4 s.2) (nodup_map _ (fun s hs t ht e => ?_) hn) (fun x hx => ?_)
  · rw [List.length_map] at h1; exact h1
  · have a1 := code4_lt s.2 (SOk.lt4 W (h s hs))
    have a2 := code4_lt t.2 (SOk.lt4 W (h t ht))
    have l1 := (h s hs).ln
    have l2 := (h t ht).ln
    have w3 := W.t3
    have p3 : ∀ k, k ≤ 3 → 4 ^ k ≤ 64 := fun k hk => by
      match k, hk with
      | 0, _ => decide
      | 1, _ => decide
      | 2, _ => decide
      | 3, _ => decide
    have b1 := p3 s.2.length (by omega)
    have b2 := p3 t.2.length (by omega)
    have e1 : s.1 = t.1 := by omega
    have e2 := code4_inj s.2 t.2 (SOk.lt4 W (h s hs)) (SOk.lt4 W (h t ht)) (by omega) (by omega)
    exact Prod.ext e1 e2
  · obtain ⟨s, hs, rfl⟩ := List.mem_map.mp hx
    have a1 := code4_lt s.2 (SOk.lt4 W (h s hs))
    have l1 := (h s hs).ln
    have w3 := W.t3
    have pl := (h s hs).pl
    have b1 : 4 ^ s.2.length ≤ 64 := by
      match s.2.length, (by omega : s.2.length ≤ 3) with
      | 0, _ => decide
      | 1, _ => decide
      | 2, _ => decide
      | 3, _ => decide
    show s.1 * 64 + code4 s.2 < rows.length * 64
    omega
theorem stop_plain {s : Stt} {r : Row} (hr : rows[s.1]? = some r) : stopAt rows s = none ↔ r.plain = true := by
  unfold stopAt
  rw [hr]
  cases r <;> simp [Row.plain]
theorem next_ok (W : WF tops rows) {s : Stt} (S : SOk tops rows s.1 s.2) (h : stopAt rows s = none) : SOk tops rows (next1 tops rows s).1 (next1 tops rows s).2 := by
  obtain ⟨r, hr⟩ : ∃ r, rows[s.1]? = some r := ⟨rows[s.1]'S.pl, List.getElem?_eq_getElem _⟩
  have hok := W.ok s.1 r hr
  have hp := (stop_plain hr).mp h
  unfold next1
  rw [hr]
  simp only
  have setOk : ∀ (q i x : Nat), q < rows.length → (∀ b, tops[i]? = some b → x ≤ b) → SOk tops rows q (s.2.set i x) := by
    intro q i x hq hx
    refine ⟨hq, by simp [S.ln], fun j a b e1 e2 => ?_⟩
    by_cases c : i = j
    · subst c
      rw [List.getElem?_set_self (by rw [S.ln]; exact (List.getElem?_eq_some_iff.mp e2).1)] at e1
      cases e1
      exact hx b e2
    · rw [List.getElem?_set_ne c] at e1
      exact S.le j a b e1 e2
  cases r with
  | go t => exact ⟨hok, S.ln, S.le⟩
  | test i t =>
    obtain ⟨h1, h2, h3⟩ := hok
    refine ⟨?_, S.ln, S.le⟩
    show (if _ then _ else _) < _
    split
    · exact h2
    · exact h3
  | zero i => exact setOk _ _ _ hok.2 fun b _ => Nat.zero_le _
  | up i =>
    refine setOk _ _ _ hok.2 fun b hb => ?_
    rw [List.getD_eq_getElem?_getD (l := tops), hb]
    have := Nat.mod_lt (s.2.getD i 0 + 1) (show 0 < b + 1 by omega)
    simp only [Option.getD_some]
    omega
  | _ => cases hp
end
end K23
set_option Elab.async false
set_option linter.all false
set_option maxRecDepth 100000
set_option maxHeartbeats 1000000
namespace K23
open PySem PySem.Spec PyProof.Rows L2 DL
theorem e_test_meet : (("test" : Str) = "meet") = False := by simp only [eq_iff_iff, iff_false]; decide +kernel
theorem e_go_meet : (("go" : Str) = "meet") = False := by simp only [eq_iff_iff, iff_false]; decide +kernel
theorem e_zero_meet : (("zero" : Str) = "meet") = False := by simp only [eq_iff_iff, iff_false]; decide +kernel
theorem e_up_meet : (("up" : Str) = "meet") = False := by simp only [eq_iff_iff, iff_false]; decide +kernel
theorem e_end_meet : (("end" : Str) = "meet") = False := by simp only [eq_iff_iff, iff_false]; decide +kernel
theorem e_call_meet : (("call" : Str) = "meet") = False := by simp only [eq_iff_iff, iff_false]; decide +kernel
theorem e_ever_meet : (("ever" : Str) = "meet") = False := by simp only [eq_iff_iff, iff_false]; decide +kernel
theorem e_test_call : (("test" : Str) = "call") = False := by simp only [eq_iff_iff, iff_false]; decide +kernel
theorem e_go_call : (("go" : Str) = "call") = False := by simp only [eq_iff_iff, iff_false]; decide +kernel
theorem e_zero_call : (("zero" : Str) = "call") = False := by simp only [eq_iff_iff, iff_false]; decide +kernel
theorem e_up_call : (("up" : Str) = "call") = False := by simp only [eq_iff_iff, iff_false]; decide +kernel
theorem e_end_call : (("end" : Str) = "call") = False := by simp only [eq_iff_iff, iff_false]; decide +kernel
theorem e_test_end : (("test" : Str) = "end") = False := by simp only [eq_iff_iff, iff_false]; decide +kernel
theorem e_go_end : (("go" : Str) = "end") = False := by simp only [eq_iff_iff, iff_false]; decide +kernel
theorem e_zero_end : (("zero" : Str) = "end") = False := by simp only [eq_iff_iff, iff_false]; decide +kernel
theorem e_up_end : (("up" : Str) = "end") = False := by simp only [eq_iff_iff, iff_false]; decide +kernel
theorem e_meet_end : (("meet" : Str) = "end") = False := by simp only [eq_iff_iff, iff_false]; decide +kernel
theorem e_call_end : (("call" : Str) = "end") = False := by simp only [eq_iff_iff, iff_false]; decide +kernel
section
variable {tops : List Nat} {rows : List Row}
/-- all that is met stays behind: no stop is ever reached -/
theorem look_closed {vs : List Stt} (h : ∀ s ∈ vs, stopAt rows s = none ∧ next1 tops rows s ∈ vs) : ∀ (n : Nat) (s : Stt), s ∈ vs → look tops rows n s = none
  | 0, _, _ => rfl
  | n + 1, s, hs => by
    obtain ⟨h1, h2⟩ := h s hs
    unfold look
    rw [h1]
    exact look_closed h n _ h2
theorem look_more : ∀ (n k : Nat) (s : Stt) (x : Stop), look tops rows n s = some x → look tops rows (n + k) s = some x
  | 0, _, _, _, h => by cases h
  | n + 1, k, s, x, h => by
    rw [show n + 1 + k = (n + k) + 1 by omega]
    unfold look at h ⊢
    cases e : stopAt rows s with
    | some y => rw [e] at h; exact h
    | none => rw [e] at h; exact look_more n k _ x h
theorem row_at {p : Nat} {r : Row} (hr : rows[p]? = some r) : atI (rows.map Row.d) (p : Int) = some r.d := atI_nat (by rw [List.getElem?_map, hr]; rfl)
/-- the body's condition -/
def condF : BF := tVal (fBin (gIn true) (fTup (fCons (fVar 1) (fCons (fVar 2) fNil))) (fVar 3))
/-- the loop's body -/
def bodyF : SF := (sSeq (sIf (tVal (fBin (gIn false) (fBin gIxD (fBin gIxD (fVar 4) (fVar 1)) (fC (.int 0))) (fTup (fCons (fC c_MEET) (fCons (fC c_CALL) fNil))))) (sRet (fTup (fCons (fBin gIxD (fBin gIxD (fVar 4) (fVar 1)) (fC (.int 0))) (fCons (fVar 1) (fCons (fVar 2) fNil))))) (fun env hp => .nx env hp)) (sSeq (sIf (tVal (fBin gEq (fBin gIxD (fBin gIxD (fVar 4) (fVar 1)) (fC (.int 0))) (fC c_END))) (sRet (fTup (fCons (fC c_END) fNil))) (fun env hp => .nx env hp)) (sSeq (sAsg (fC (.bl true)) (gSub' (fVar 3) (fTup (fCons (fVar 1) (fCons (fVar 2) fNil))) gPut)) (sAsg (fCall (g_count_behind) (fCons (fVar 0) (fCons (fBin gIxD (fVar 4) (fVar 1)) (fCons (fVar 1) (fCons (fVar 2) fNil))))) (gT 2 (gCons' (gN 1) (gCons' (gN 2) gNil')))))))
theorem next_body : b_next_count = (sSeq (sPar [3, 4] (fCons fDct0 (fCons (fBin gIxD (fVar 0) (fC (.int 1))) fNil))) (sSeq (sWhile condF bodyF) (sRet (fTup (fCons (fC c_EVER) fNil))))) := rfl
def envN (tops : List Nat) (rows : List Row) (m : Nat) (s : Stt) : En := [some (cntD tops rows), some (nD s.1), some (natsD s.2), some (.ref m), some (.tup (rows.map Row.d))]
theorem gIn_dct {n : Nat} {hp : Ht} {s : Stt} {vs : List Stt} (h : hp[n]? = some (.dct (metK vs))) : gIn true (sttD s) (.ref n) hp = .ok (.bl (!decide (s ∈ vs))) hp := by
  have e1 : lsOf hp n = none := by unfold lsOf; rw [h]
  have e2 : dctOf hp n = some (metK vs) := by unfold dctOf; rw [h]
  unfold gIn
  simp only [e1, e2, keyOf_stt, met_get, if_true]
theorem cond_s {m : Nat} {s : Stt} {vs : List Stt} {hp : Ht} (h : hp[m]? = some (.dct (metK vs))) : condF (envN tops rows m s) hp = .ok (!decide (s ∈ vs)) hp := by
  unfold condF envN
  have := gIn_dct (s := s) h
  unfold sttD at this
  simp [this]
theorem gIn_kind {x : Str} {hp : Ht} : gIn false (.str x) (.tup [c_MEET, c_CALL]) hp = .ok (.bl (decide (x = "meet") || decide (x = "call"))) hp := by
  have : ∀ a b : Str, decide (a = b) = decide (b = a) := fun a b => by simp only [eq_comm]
  unfold gIn inB
  have b : ∀ a b : Str, (a == b) = decide (a = b) := fun a b => by by_cases h : a = b <;> simp [h]
  simp [c_MEET, c_CALL, flatD, eqF, this x, b]
/-- one turn of the loop -/
theorem body_s (W : WF tops rows) {m : Nat} {s : Stt} {vs : List Stt} {hp : Ht} (S : SOk tops rows s.1 s.2) (h : hp[m]? = some (.dct (metK vs))) (hv : s ∉ vs) (hz : vs.length ≤ 1000) :
    bodyF (envN tops rows m s) hp = match stopAt rows s with
      | some x => .rt x.d hp
      | none => .nx (envN tops rows m (next1 tops rows s)) (hp.set m (.dct (metK (vs ++ [s])))) := by
  obtain ⟨r, hr⟩ : ∃ r, rows[s.1]? = some r := ⟨rows[s.1]'S.pl, List.getElem?_eq_getElem _⟩
  have hrow := row_at hr
  have hput : gPut (.ref m) (sttD s) (.bl true) hp = some (hp.set m (.dct (metK (vs ++ [s])))) := by
    have e2 : dctOf hp m = some (metK vs) := by unfold dctOf; rw [h]
    unfold gPut
    simp only [e2, keyOf_stt]
    rw [met_put s vs hv, if_pos]
    unfold metK
    rw [List.length_map]
    exact Nat.lt_of_lt_of_le (by omega : vs.length < 1001) (by decide)
  unfold sttD at hput
  have hstep : ∀ hp', r.plain = true → g_count_behind [cntD tops rows, r.d, .int s.1, natsD s.2] hp' = .ok (.tup [.int (step tops r s.1 s.2).1, natsD (step tops r s.1 s.2).2]) hp' := fun hp' hpl => count_behind_s W S hr hpl
  have hat : atI (rows.map Row.d) (s.1 : Int) = some r.d := hrow
  unfold bodyF envN stopAt next1
  rw [hr]
  simp only [nD] at hput ⊢
  cases r with
  | go t =>
    have hs := fun hp' => hstep hp' rfl
    simp only [Row.d] at hat hs
    simp [hat, gIn_kind, c_END, e_go_meet, e_go_call, e_go_end, hput, hs]
  | test i t =>
    have hs := fun hp' => hstep hp' rfl
    simp only [Row.d] at hat hs
    simp [hat, gIn_kind, c_END, e_test_meet, e_test_call, e_test_end, hput, hs]
  | zero i =>
    have hs := fun hp' => hstep hp' rfl
    simp only [Row.d] at hat hs
    simp [hat, gIn_kind, c_END, e_zero_meet, e_zero_call, e_zero_end, hput, hs]
  | up i =>
    have hs := fun hp' => hstep hp' rfl
    simp only [Row.d] at hat hs
    simp [hat, gIn_kind, c_END, e_up_meet, e_up_call, e_up_end, hput, hs]
  | meet x tk =>
    simp only [Row.d] at hat
    simp [hat, gIn_kind, Stop.d, nD]
  | call x tk =>
    simp only [Row.d] at hat
    simp [hat, gIn_kind, Stop.d, nD]
  | fin =>
    simp only [Row.d] at hat
    simp [hat, gIn_kind, c_END, e_end_meet, e_end_call, Stop.d]
/-- the whole loop -/
structure Path (tops : List Nat) (rows : List Row) (s0 : Stt) (vs : List Stt) (s : Stt) : Prop where
  nd : vs.Nodup
  ok : ∀ x ∈ vs, SOk tops rows x.1 x.2
  cur : SOk tops rows s.1 s.2
  lk : ∀ n, look tops rows (n + vs.length) s0 = look tops rows n s
  cl : ∀ x ∈ vs, stopAt rows x = none ∧ (next1 tops rows x ∈ vs ∨ next1 tops rows x = s)
  fst : vs = [] ∧ s = s0 ∨ s0 ∈ vs
theorem while_s (W : WF tops rows) {m : Nat} {s0 : Stt} : ∀ (f : Nat) (s : Stt) (vs : List Stt) (hp : Ht), Path tops rows s0 vs s → rows.length * 64 + 2 ≤ f + vs.length → hp[m]? = some (.dct (metK vs)) →
    ∃ vs', (look tops rows (rows.length * 64 + 1) s0 = none ∧ ∃ s', whileS condF bodyF f (envN tops rows m s) hp = .nx (envN tops rows m s') (hp.set m (.dct (metK vs')))) ∨
      ∃ x, look tops rows (rows.length * 64 + 1) s0 = some x ∧ whileS condF bodyF f (envN tops rows m s) hp = .rt x.d (hp.set m (.dct (metK vs')))
  | 0, s, vs, hp, P, hf, h => by
    have := states_le W P.nd P.ok
    omega
  | f + 1, s, vs, hp, P, hf, h => by
    have hle := states_le W P.nd P.ok
    have hself : hp.set m (.dct (metK vs)) = hp := by
      obtain ⟨hlt, e⟩ := List.getElem?_eq_some_iff.mp h
      rw [← e, List.set_getElem_self]
    unfold whileS
    rw [cond_s h]
    by_cases c : s ∈ vs
    · have hcl : ∀ x ∈ vs, stopAt rows x = none ∧ next1 tops rows x ∈ vs := fun x hx => ⟨(P.cl x hx).1, (P.cl x hx).2.elim id fun e => e ▸ c⟩
      have h0 : s0 ∈ vs := by
        rcases P.fst with ⟨e, _⟩ | e
        · rw [e] at c; cases c
        · exact e
      refine ⟨vs, .inl ⟨look_closed hcl _ _ h0, s, ?_⟩⟩
      rw [hself]
      simp [c]
    · have hz : vs.length ≤ 1000 := by have := W.r12; omega
      simp only [c, decide_false, Bool.not_false, Out.ok_so, if_true]
      rw [body_s W P.cur h c hz]
      cases e : stopAt rows s with
      | some x =>
        refine ⟨vs, .inr ⟨x, ?_, ?_⟩⟩
        · have e2 : look tops rows (rows.length * 64 + 1) s0 = look tops rows (rows.length * 64 + 1 - vs.length) s := by
            have := P.lk (rows.length * 64 + 1 - vs.length)
            rw [← this]
            congr 1
            omega
          rw [e2, show rows.length * 64 + 1 - vs.length = (rows.length * 64 - vs.length) + 1 by omega]
          unfold look
          rw [e]
        · simp [hself]
      | none =>
        simp only
        have hlt : m < hp.length := (List.getElem?_eq_some_iff.mp h).1
        have P' : Path tops rows s0 (vs ++ [s]) (next1 tops rows s) := by
          refine ⟨?_, ?_, next_ok W P.cur e, fun n => ?_, fun x hx => ?_, ?_⟩
          · rw [List.nodup_append]
            exact ⟨P.nd, by simp, fun a ha b hb e3 => by simp at hb; subst hb; exact c (e3 ▸ ha)⟩
          · intro x hx
            rcases List.mem_append.mp hx with hx | hx
            · exact P.ok x hx
            · simp at hx; subst hx; exact P.cur
          · have := P.lk (n + 1)
            rw [List.length_append, List.length_singleton, show n + (vs.length + 1) = n + 1 + vs.length by omega, this]
            rw [look, e]
          · rcases List.mem_append.mp hx with hx | hx
            · obtain ⟨a, b⟩ := P.cl x hx
              refine ⟨a, .inl ?_⟩
              rcases b with b | b
              · exact List.mem_append_left _ b
              · rw [b]; simp
            · simp at hx; subst hx
              exact ⟨e, .inr rfl⟩
          · rcases P.fst with ⟨e1, e2⟩ | e1
            · exact .inr (by rw [e2]; simp)
            · exact .inr (List.mem_append_left _ e1)
        have h' : (hp.set m (.dct (metK (vs ++ [s]))))[m]? = some (.dct (metK (vs ++ [s]))) := List.getElem?_set_self hlt
        obtain ⟨vs', ih⟩ := while_s W f (next1 tops rows s) (vs ++ [s]) _ P' (by rw [List.length_append, List.length_singleton]; omega) h'
        simp only [List.set_set] at ih
        exact ⟨vs', ih⟩
theorem next_count_s (W : WF tops rows) {s : Stt} (S : SOk tops rows s.1 s.2) (hp : Ht) : ∃ o, g_next_count [cntD tops rows, nD s.1, natsD s.2] hp = .ok (lookD tops rows (rows.length * 64 + 1) s) (hp ++ [o]) := by
  have hm : (hp ++ [O.dct (metK [])])[hp.length]? = some (.dct (metK [])) := by simp
  have P : Path tops rows s [] s := ⟨List.nodup_nil, (fun _ h => nomatch h), S, fun n => rfl, (fun _ h => nomatch h), .inl ⟨rfl, rfl⟩⟩
  obtain ⟨vs', h⟩ := while_s W fuelW s [] (hp ++ [.dct (metK [])]) P (by have := W.r12; show _ ≤ 1099511627776 + 0; omega) hm
  have hset : (hp ++ [O.dct (metK [])]).set hp.length (.dct (metK vs')) = hp ++ [.dct (metK vs')] := by simp
  rw [hset] at h
  refine ⟨.dct (metK vs'), ?_⟩
  · unfold g_next_count
    rw [runDef_e, next_body]
    have he : ([some (cntD tops rows), some (nD s.1), some (natsD s.2), some (.ref hp.length), some (.tup (rows.map Row.d))] : En) = envN tops rows hp.length s := rfl
    have hd : O.dct [] = O.dct (metK []) := rfl
    simp [startD, cntD]
    rw [← cntD, he, hd]
    unfold sWhile lookD
    rcases h with ⟨h1, s', h2⟩ | ⟨x, h1, h2⟩
    · rw [h1, h2]
      simp [c_EVER, everD]
    · rw [h1, h2]
      simp
end
end K23
set_option Elab.async false
set_option linter.all false
set_option maxRecDepth 100000
set_option maxHeartbeats 1000000
namespace K23
open PySem PySem.Spec PyProof.Rows L2 DL
theorem e_meet_up : (("meet" : Str) = "up") = False := by simp only [eq_iff_iff, iff_false]; decide +kernel
theorem e_go_up : (("go" : Str) = "up") = False := by simp only [eq_iff_iff, iff_false]; decide +kernel
theorem e_test_up : (("test" : Str) = "up") = False := by simp only [eq_iff_iff, iff_false]; decide +kernel
theorem e_go_zero : (("go" : Str) = "zero") = False := by simp only [eq_iff_iff, iff_false]; decide +kernel
theorem e_test_zero : (("test" : Str) = "zero") = False := by simp only [eq_iff_iff, iff_false]; decide +kernel
theorem e_zero_up : (("zero" : Str) = "up") = False := by simp only [eq_iff_iff, iff_false]; decide +kernel
theorem e_go_test : (("go" : Str) = "test") = False := by simp only [eq_iff_iff, iff_false]; decide +kernel
theorem gIn_strs {x : Str} {ys : List Str} {hp : Ht} : gIn false (.str x) (.tup (ys.map D.str)) hp = .ok (.bl (decide (x ∈ ys))) hp := by
  have b : ∀ a b : Str, (a == b) = decide (a = b) := fun a b => by by_cases h : a = b <;> simp [h]
  unfold gIn inB
  have h1 : (ys.map D.str).all flatD = true := by simp [flatD]
  simp only [flatD, h1, and_self, if_true]
  have : ∀ ys : List Str, (ys.map D.str).any (fun y => eqF y (.str x)) = decide (x ∈ ys) := by
    intro ys
    induction ys with
    | nil => rfl
    | cons y ys ih =>
      rw [List.map_cons, List.any_cons, ih]
      have e1 : eqF (.str y) (.str x) = decide (y = x) := b y x
      rw [e1]
      by_cases c : y = x
      · subst c; simp
      · have c' : ¬ x = y := fun e => c e.symm
        simp [c, c']
  rw [this]
  simp
theorem gIn3 {x : Str} {hp : Ht} : gIn false (.str x) (.tup [.str "meet", .str "call", .str "end"]) hp = .ok (.bl (decide (x ∈ (["meet", "call", "end"] : List Str)))) hp := gIn_strs (ys := ["meet", "call", "end"])
theorem gIn2 {x : Str} {hp : Ht} : gIn false (.str x) (.tup [.str "up", .str "zero"]) hp = .ok (.bl (decide (x ∈ (["up", "zero"] : List Str)))) hp := gIn_strs (ys := ["up", "zero"])
section
variable {tops : List Nat} {rows : List Row}
def envL (tops : List Nat) (rows : List Row) (s : Stt) (a b c : Option D) : En := [some (cntD tops rows), some (nD s.1), some (natsD s.2), some (natsD tops), some (.tup (rows.map Row.d)), a, b, c]
theorem up_mod {a b : Nat} (h : a ≤ b) : (a + 1) % (b + 1) = if a = b then 0 else a + 1 := by
  split
  · rename_i e; subst e; exact Nat.mod_self _
  · exact Nat.mod_eq_of_lt (by omega)
theorem set_cut {ns : List D} {s : Nat} {v : D} {hp : Ht} (h : ns.length ≤ 1000) (hs : s < ns.length) : ((gAdd (.tup (cutD ns none (some (s : Int)))) (.tup [v]) hp).bind fun x hp1 => gAdd x (.tup (cutD ns (some ((s : Int) + 1)) none)) hp1) = .ok (.tup (ns.set s v)) hp := by
  have e1 : ((s : Int) + 1) = ((s + 1 : Nat) : Int) := rfl
  rw [cutD_hi, e1, cutD_lo, gAdd_t (by simp; exact szn (by omega)), Out.ok_bind, gAdd_t (by simp; exact szn (by omega))]
  rw [List.set_eq_take_append_cons_drop, if_pos hs]
  simp
theorem turn_s (W : WF tops rows) {s : Stt} {a b c : Option D} {hp : Ht} (S : SOk tops rows s.1 s.2) :
    (∃ x, stopAt rows s = some x ∧ b__law_count_next_1 (envL tops rows s a b c) hp = .rt x.d hp) ∨ (stopAt rows s = none ∧ ∃ b' c', b__law_count_next_1 (envL tops rows s a b c) hp = .nx (envL tops rows (next1 tops rows s) a b' c') hp) := by
  obtain ⟨r, hr⟩ : ∃ r, rows[s.1]? = some r := ⟨rows[s.1]'S.pl, List.getElem?_eq_getElem _⟩
  have hat : atI (rows.map Row.d) (s.1 : Int) = some r.d := row_at hr
  have hok := W.ok s.1 r hr
  have hn : ∀ i, i < tops.length → ∃ a, s.2[i]? = some a := fun i h => ⟨s.2[i]'(by rw [S.ln]; exact h), List.getElem?_eq_getElem _⟩
  have ht : ∀ i, i < tops.length → ∃ a, tops[i]? = some a := fun i h => ⟨tops[i], List.getElem?_eq_getElem _⟩
  have l3 : s.2.length ≤ 1000 := by have := S.ln; have := W.t3; omega
  unfold envL stopAt next1
  rw [hr]
  cases r with
  | go t =>
    right
    simp only [Row.d] at hat
    simp [b__law_count_next_1, nD, hat, gIn3, gIn2, e_go_meet, e_go_call, e_go_end, e_go_up, e_go_zero, step]
  | test i t =>
    right
    obtain ⟨h1, h2, h3⟩ := hok
    obtain ⟨x, hx⟩ := hn i h1
    simp only [Row.d] at hat
    simp [b__law_count_next_1, nD, hat, gIn3, gIn2, e_test_meet, e_test_call, e_test_end, e_test_up, e_test_zero, e_test_go, step, natsD, nats_at hx, hx]
    by_cases c0 : x = 0 <;> simp [c0]
  | zero i =>
    right
    obtain ⟨h1, h2⟩ := hok
    have hset := fun v => set_cut (ns := s.2.map nD) (s := i) (v := v) (hp := hp) (by simpa using l3) (by simp [S.ln, h1])
    simp only [Row.d] at hat
    refine ⟨rfl, ?_⟩
    simp [b__law_count_next_1, nD, hat, gIn3, gIn2, e_zero_meet, e_zero_call, e_zero_end, e_zero_up, e_zero_go, e_zero_test, step, natsD]
    have h := hset (.int 0)
    rw [h]
    simp [hat, e_zero_go, e_zero_test, nD]
  | up i =>
    right
    obtain ⟨h1, h2⟩ := hok
    obtain ⟨x, hx⟩ := hn i h1
    obtain ⟨y, hy⟩ := ht i h1
    have hset := fun v => set_cut (ns := s.2.map nD) (s := i) (v := v) (hp := hp) (by simpa using l3) (by simp [S.ln, h1])
    have hxy := S.le i x y hx hy
    simp only [Row.d] at hat
    refine ⟨rfl, ?_⟩
    have e2 : (s.2.getD i 0 + 1) % (tops.getD i 0 + 1) = if x = y then 0 else x + 1 := by
      rw [List.getD_eq_getElem?_getD, List.getD_eq_getElem?_getD, hx, hy]
      exact up_mod hxy
    simp only [step, e2]
    by_cases c0 : x = y
    · have h := hset (.int 0)
      simp [b__law_count_next_1, nD, hat, gIn3, gIn2, e_up_meet, e_up_call, e_up_end, e_up_zero, e_up_go, e_up_test, natsD, nats_at hx, nats_at hy, c0]
      rw [h]
      simp [hat, e_up_go, e_up_test, nD]
    · have c0' : ¬ ((x : Int) = (y : Int)) := by omega
      have h := hset (.int ((x : Int) + 1))
      simp [b__law_count_next_1, nD, hat, gIn3, gIn2, e_up_meet, e_up_call, e_up_end, e_up_zero, e_up_go, e_up_test, natsD, nats_at hx, nats_at hy, c0, c0']
      rw [h]
      simp [hat, e_up_go, e_up_test, nD]
  | meet x tk =>
    left
    simp only [Row.d] at hat
    simp [b__law_count_next_1, nD, hat, gIn3, e_meet_end, Stop.d]
  | call x tk =>
    left
    simp only [Row.d] at hat
    simp [b__law_count_next_1, nD, hat, gIn3, e_call_end, Stop.d]
  | fin =>
    left
    simp only [Row.d] at hat
    simp [b__law_count_next_1, nD, hat, gIn3, Stop.d]
theorem law_next_s (W : WF tops rows) {s : Stt} (S : SOk tops rows s.1 s.2) (hp : Ht) : g__law_count_next [cntD tops rows, nD s.1, natsD s.2] hp = .ok (lookD tops rows (rows.length * 64 + 1) s) hp := by
  generalize hN : rows.length * 64 + 1 = N
  have loop := for_inv (g := gN 5) (body := b__law_count_next_1) (src := .rng 0 N) (items := ranD N) (I := fun i env hp' => hp' = hp ∧ ∃ t a b c, env = envL tops rows t a b c ∧ SOk tops rows t.1 t.2 ∧ look tops rows N s = look tops rows (N - i) t) (R := fun d hp' => hp' = hp ∧ d = lookD tops rows N s)
    (fun i env hp' _ => item_rng) (fun i d env hp' hd hI => by
      obtain ⟨rfl, t, a, b, c, rfl, St, hl⟩ := hI
      obtain ⟨_, hi⟩ := ranD_at hd
      have hs : N - i = (N - (i + 1)) + 1 := by omega
      have henv : (gN 5 d (envL tops rows t a b c) hp').so b__law_count_next_1 = b__law_count_next_1 (envL tops rows t (some d) b c) hp' := rfl
      rw [henv]
      rcases turn_s (a := some d) (b := b) (c := c) (hp := hp') W St with ⟨x, e1, e2⟩ | ⟨e1, b', c', e2⟩
      · rw [e2]
        refine ⟨rfl, ?_⟩
        rw [hs, look, e1] at hl
        unfold lookD
        rw [hl]
      · rw [e2]
        refine ⟨rfl, _, _, _, _, rfl, next_ok W St e1, ?_⟩
        rw [hs, look, e1] at hl
        exact hl) (N + 1) 0 (envL tops rows s none none none) hp (by rw [ranD_len]; omega) (Nat.zero_le _) ⟨rfl, s, _, _, _, rfl, S, by simp⟩
  have h12 := W.r12
  have body : b__law_count_next [some (cntD tops rows), some (nD s.1), some (natsD s.2), none, none, none, none, none] hp = thnS (forS (gN 5) b__law_count_next_1 (.rng 0 N) (N + 1) 0 (envL tops rows s none none none) hp) (sRet (fTup (fCons (fC (.str "ever")) fNil))) := by
    unfold b__law_count_next
    rw [sSeq_e]
    have e1 : sAsg (fVar 0) (gT 2 (gCons' (gN 3) (gCons' (gN 4) gNil'))) [some (cntD tops rows), some (nD s.1), some (natsD s.2), none, none, none, none, none] hp = .nx (envL tops rows s none none none) hp := by
      simp [cntD, envL]
    rw [e1, thn_nx, sSeq_e]
    rw [sFor_range (n := N) (hp1 := hp) (by
      have q : gMul (.int (rows.length : Int)) (.int 64) hp = .ok (.int (rows.length * 64 : Int)) hp := mulC ⟨by omega, by omega⟩ (by omega) (by omega)
      simp [envL, q]
      omega) (by omega)]
  unfold g__law_count_next
  rw [runDef_e]
  show ans (b__law_count_next [some (cntD tops rows), some (nD s.1), some (natsD s.2), none, none, none, none, none] hp) = _
  rw [body]
  obtain ⟨d', hp', e, rfl, h2⟩ := ResN.ok (ResN.thn (J := fun _ _ => False) (b := sRet (fTup (fCons (fC (.str "ever")) fNil))) loop fun e hp1 hI => by
    obtain ⟨rfl, t, a, b, c, rfl, St, hl⟩ := hI
    rw [ranD_len, Nat.sub_self, look] at hl
    show ResN _ _ (sRet _ (envL tops rows t a b c) hp1)
    simp
    refine ⟨rfl, ?_⟩
    unfold lookD
    rw [hl]
    rfl)
  rw [e, h2]
end
end K23
set_option Elab.async false
set_option linter.all false
set_option maxRecDepth 100000
set_option maxHeartbeats 1000000
namespace K23
open PySem PySem.Spec PyProof.Rows L2 DL
/-! ### events -/
def updF (fed tk ns : List Nat) : List Nat := ns.mapIdx fun i n => if i ∈ tk then fed.getD i 0 else n
def evs (tops : List Nat) (rows : List Row) : List (List Nat) → Stt → List D
  | [], s => match look tops rows (rows.length * 64 + 1) s with
    | some (.meet x _ _ ns) => [.tup [.str x, natsD ns]]
    | some y => [y.d]
    | none => [everD]
  | f :: fs, s => match look tops rows (rows.length * 64 + 1) s with
    | some (.meet x tk p ns) => .tup [.str x, natsD ns, .tup (tk.map fun t => nD (f.getD t 0))] :: evs tops rows fs (p + 1, updF f tk ns)
    | some y => [y.d]
    | none => [everD]
structure FeedOk (tops f : List Nat) : Prop where
  ln : f.length = tops.length
  le : ∀ (i a b : Nat), f[i]? = some a → tops[i]? = some b → a ≤ b
section
variable {tops : List Nat} {rows : List Row}
theorem look_ok (W : WF tops rows) : ∀ (n : Nat) (s : Stt) (x : Str) (tk : List Nat) (p : Nat) (ns : List Nat), SOk tops rows s.1 s.2 → look tops rows n s = some (.meet x tk p ns) → SOk tops rows p ns ∧ rows[p]? = some (.meet x tk)
  | 0, _, _, _, _, _, _, h => by cases h
  | n + 1, s, x, tk, p, ns, S, h => by
    unfold look at h
    cases e : stopAt rows s with
    | some y =>
      rw [e] at h
      cases h
      unfold stopAt at e
      split at e
      · rename_i z tk' er
        cases e
        exact ⟨S, er⟩
      · cases e
      · cases e
      · cases e
    | none =>
      rw [e] at h
      exact look_ok W n _ x tk p ns (next_ok W S e) h
theorem upd_ok (W : WF tops rows) {p : Nat} {ns f tk : List Nat} {x : Str} (S : SOk tops rows p ns) (hr : rows[p]? = some (.meet x tk)) (hf : FeedOk tops f) : SOk tops rows (p + 1) (updF f tk ns) := by
  have hok := W.ok p _ hr
  refine ⟨hok.2.1, by simp [updF, S.ln], fun i a b e1 e2 => ?_⟩
  simp only [updF, List.getElem?_mapIdx, Option.map_eq_some_iff] at e1
  obtain ⟨n, e3, e4⟩ := e1
  split at e4
  · have hi : i < f.length := by rw [hf.ln]; exact (List.getElem?_eq_some_iff.mp e2).1
    have : f[i]? = some a := by
      rw [List.getD_eq_getElem?_getD, List.getElem?_eq_getElem hi] at e4
      rw [List.getElem?_eq_getElem hi]
      simp at e4
      rw [e4]
    exact hf.le i a b this e2
  · subst e4
    exact S.le i n b e3 e2
theorem f_at {f : List Nat} {t : Nat} {hp : Ht} (h : t < f.length) : gIxD (natsD f) (nD t) hp = .ok (nD (f.getD t 0)) hp := by
  have := nats_at (ns := f) (s := t) (a := f.getD t 0) (by rw [List.getD_eq_getElem?_getD, List.getElem?_eq_getElem h]; rfl)
  unfold natsD nD
  rw [gIxD_t]
  unfold nD at this
  rw [this]
theorem in_nats {t : Nat} {tk : List Nat} {hp : Ht} : gIn false (nD t) (natsD tk) hp = .ok (.bl (decide (t ∈ tk))) hp := by
  unfold gIn inB natsD
  have h1 : (tk.map nD).all flatD = true := by simp [nD, flatD]
  have h2 : flatD (nD t) = true := rfl
  simp only [h1, h2, and_self, if_true]
  have : ∀ tk : List Nat, (tk.map nD).any (fun y => eqF y (nD t)) = decide (t ∈ tk) := by
    intro tk
    induction tk with
    | nil => rfl
    | cons y ys ih =>
      rw [List.map_cons, List.any_cons, ih]
      have e1 : eqF (nD y) (nD t) = decide (y = t) := by
        show ((y : Int) == (t : Int)) = _
        by_cases c : y = t
        · simp [c]
        · simp [c]; omega
      rw [e1]
      by_cases c : y = t
      · subst c; simp
      · have c' : ¬ t = y := fun e => c e.symm
        simp [c, c']
  rw [this]
  simp
/-- numbers behind a meeting -/
def updE (fv tv : Nat) : EF := fIf (tVal (fBin (gIn false) (fVar 0) (fVar tv))) (fBin gIxD (fVar fv) (fVar 0)) (fVar 1)
def pickF (f : List Nat) : D → D
  | .int i => nD (f.getD i.toNat 0)
  | x => x
def updD (f tk : List Nat) : D → D
  | .tup [.int i, n] => if i.toNat ∈ tk then nD (f.getD i.toNat 0) else n
  | x => x
theorem enum_map (f tk ns : List Nat) : (enumD (ns.map nD)).map (updD f tk) = (updF f tk ns).map nD := by
  unfold enumD updF
  apply List.ext_getElem?
  intro i
  simp only [List.getElem?_map, List.getElem?_mapIdx]
  cases ns[i]? with
  | none => rfl
  | some n =>
    simp only [Option.map_some, Option.some.injEq, Int.toNat_natCast, updD]
    split <;> rfl
theorem enum_mem {ns : List Nat} {d : D} (h : d ∈ enumD (ns.map nD)) : ∃ i n, d = .tup [nD i, nD n] ∧ ns[i]? = some n := by
  obtain ⟨i, hi⟩ := List.getElem?_of_mem h
  unfold enumD at hi
  rw [List.getElem?_mapIdx, List.getElem?_map] at hi
  cases e : ns[i]? with
  | none => rw [e] at hi; cases hi
  | some n =>
    rw [e] at hi
    simp at hi
    exact ⟨i, n, hi.symm, e⟩
end
end K23
set_option Elab.async false
set_option linter.all false
set_option maxRecDepth 100000
set_option maxHeartbeats 1000000
namespace K23
open PySem PySem.Spec PyProof.Rows L2 DL
section
variable {tops : List Nat} {rows : List Row}
def envE (tops : List Nat) (rows : List Row) (fd : D) (s : Stt) (L : Nat) (a b c d e f : Option D) : En := [some (cntD tops rows), some fd, some (nD s.1), some (natsD s.2), some (.ref L), a, b, c, d, e, f]
theorem ne_meet {x : Stop} (h : ∀ a b c d, x ≠ .meet a b c d) {hp : Ht} : ∃ k r, x.d = .tup (.str k :: r) ∧ decide (k = "meet") = false := by
  cases x with
  | meet a b c d => exact absurd rfl (h a b c d)
  | call p ns => exact ⟨_, _, rfl, by simp only [e_call_meet, decide_false]⟩
  | fin => exact ⟨_, _, rfl, by simp only [e_end_meet, decide_false]⟩
/-- what is told is no meeting -/
theorem told_end {s : Stt} (h : ∀ x tk p ns, look tops rows (rows.length * 64 + 1) s ≠ some (.meet x tk p ns)) : (∃ k r, lookD tops rows (rows.length * 64 + 1) s = .tup (.str k :: r) ∧ decide (k = "meet") = false) ∧ (∀ fs, evs tops rows fs s = [lookD tops rows (rows.length * 64 + 1) s]) := by
  unfold lookD
  cases e : look tops rows (rows.length * 64 + 1) s with
  | none =>
    refine ⟨⟨_, _, rfl, by simp only [e_ever_meet, decide_false]⟩, fun fs => ?_⟩
    cases fs <;> simp [evs, e]
  | some y =>
    have hy : ∀ a b c d, y ≠ .meet a b c d := fun a b c d z => h a b c d (by rw [e, z])
    refine ⟨ne_meet hy (hp := []), fun fs => ?_⟩
    cases y with
    | meet a b c d => exact absurd rfl (hy a b c d)
    | _ => cases fs <;> simp [evs, e]
theorem row1_s {hp : Ht} {p : Nat} {x : Str} {tk : List Nat} (hr : rows[p]? = some (.meet x tk)) : gSl (.tup [.str "meet", .str x, natsD tk]) (some 1) none hp = .ok (.tup [.str x, natsD tk]) hp := by
  have := cutD_lo (xs := [.str "meet", .str x, natsD tk]) (k := 1)
  rw [gSl_t]
  have e : ((1 : Nat) : Int) = 1 := rfl
  rw [e] at this
  rw [this]
  rfl
def fedOf : List (List Nat) → D
  | [] => .non
  | g :: _ => natsD g
theorem add_new {hp : Ht} {L : Nat} {acc : List D} {o : O} {v : D} (hL : hp[L]? = some (.lst acc)) (hz : acc.length ≤ 1000) : gAdd (.ref L) (.ref (hp.length + 1)) (hp ++ [o, .lst [v]]) = .ok (.ref (hp.length + 2)) (hp ++ [o, .lst [v], .lst (acc ++ [v])]) := by
  have hLlt : L < hp.length := (List.getElem?_eq_some_iff.mp hL).1
  have := gAdd_l (hp := hp ++ [o, .lst [v]]) (a := L) (b := hp.length + 1) (ys := acc) (zs := [v]) (by rw [List.getElem?_append_left hLlt]; exact hL) (by rw [List.getElem?_append_right (by omega)]; simp) (by simp; omega)
  simpa using this
theorem tup_new {hp : Ht} {o a : O} {xs : List D} : gTuple [.ref (hp.length + 2)] (hp ++ [o, a, .lst xs]) = .ok (.tup xs) (hp ++ [o, a, .lst xs]) :=
  gTuple_r (lsOf_lst (by rw [List.getElem?_append_right (by omega)]; simp))
theorem turnE_s (W : WF tops rows) {fd : D} {s : Stt} {L : Nat} {b c d e f : Option D} {hp : Ht} {acc : List D} {fed : D} {fs : List (List Nat)} (S : SOk tops rows s.1 s.2) (hL : hp[L]? = some (.lst acc)) (hz : acc.length ≤ 1000) (hfs : ∀ g ∈ fs, FeedOk tops g)
    (hfed : fed = fedOf fs) :
    Res (fun env' hp' => ∃ g fs' s' acc' b c d e f, fs = g :: fs' ∧ env' = envE tops rows fd s' L (some fed) b c d e f ∧ hp'[L]? = some (.lst acc') ∧ acc'.length = acc.length + 1 ∧ SOk tops rows s'.1 s'.2 ∧ acc ++ evs tops rows fs s = acc' ++ evs tops rows fs' s' ∧ Ext [L] hp hp')
      (fun d hp' => d = .tup (acc ++ evs tops rows fs s) ∧ Ext [L] hp hp') (b_count_events_1 (envE tops rows fd s L (some fed) b c d e f) hp) := by
  obtain ⟨o, e1⟩ := next_count_s W S hp
  have hLlt : L < hp.length := (List.getElem?_eq_some_iff.mp hL).1
  by_cases hm : ∀ x tk p ns, look tops rows (rows.length * 64 + 1) s ≠ some (.meet x tk p ns)
  · obtain ⟨⟨k, r, ek, ek2⟩, hev⟩ := told_end hm
    rw [hev fs]
    rw [ek] at e1 ⊢
    have ne : gNe (.str k) c_MEET (hp ++ [o]) = .ok (.bl true) (hp ++ [o]) := by
      unfold c_MEET
      rw [gNe_s, ek2]
      rfl
    have run : b_count_events_1 (envE tops rows fd s L (some fed) b c d e f) hp = .rt (.tup (acc ++ [.tup (.str k :: r)])) (hp ++ [o, .lst [.tup (.str k :: r)], .lst (acc ++ [.tup (.str k :: r)])]) := by
      have ad := add_new (o := o) (v := .tup (.str k :: r)) hL hz
      have tp := tup_new (hp := hp) (o := o) (a := .lst [.tup (.str k :: r)]) (xs := acc ++ [.tup (.str k :: r)])
      unfold b_count_events_1 envE
      simp [e1, ne, ad, tp]
    rw [run]
    exact ⟨rfl, Ext.app _ _ _⟩
  · simp only [Classical.not_forall, Classical.not_not] at hm
    obtain ⟨x, tk, p, ns, hm⟩ := hm
    obtain ⟨S2, hr⟩ := look_ok W _ s x tk p ns S hm
    have htold : lookD tops rows (rows.length * 64 + 1) s = .tup [.str "meet", nD p, natsD ns] := by unfold lookD; rw [hm]; rfl
    rw [htold] at e1
    have hok := W.ok p _ hr
    have hat : atI (rows.map Row.d) (p : Int) = some (.tup [.str "meet", .str x, natsD tk]) := row_at hr
    have ne : ∀ hp, gNe (.str "meet") c_MEET hp = .ok (.bl false) hp := fun hp => by
      unfold c_MEET
      rw [gNe_s]
      simp
    have r1 := fun hp => row1_s (hp := hp) hr
    cases fs with
    | nil =>
      simp only [fedOf] at hfed
      subst hfed
      have run : b_count_events_1 (envE tops rows fd s L (some .non) b c d e f) hp = .rt (.tup (acc ++ [.tup [.str x, natsD ns]])) (hp ++ [o, .lst [.tup [.str x, natsD ns]], .lst (acc ++ [.tup [.str x, natsD ns]])]) := by
        have ad := add_new (o := o) (v := .tup [.str x, natsD ns]) hL hz
        have tp := tup_new (hp := hp) (o := o) (a := .lst [.tup [.str x, natsD ns]]) (xs := acc ++ [.tup [.str x, natsD ns]])
        unfold b_count_events_1 envE
        simp only [cntD, nD] at e1 ⊢
        simp [e1, ne, hat, r1, ad, tp]
      rw [run]
      refine ⟨?_, Ext.app _ _ _⟩
      simp [evs, hm]
    | cons g fs' =>
      simp only [fedOf] at hfed
      subst hfed
      have hg := hfs g List.mem_cons_self
      have htk : ∀ t ∈ tk, t < g.length := fun t ht => by rw [hg.ln]; exact hok.1 t ht
      -- what is heard
      obtain ⟨g1, e5⟩ := tupLc_map (env := [some (cntD tops rows), some fd, some (nD s.1), some (natsD s.2), some (.ref L), some (natsD g), some (.tup [.str "meet", nD p, natsD ns]), some (.str x), some (natsD tk), e, f]) (hp := hp ++ [o]) (hp1 := hp ++ [o]) (vs := [9]) (g := gN 9) (e := fBin gIxD (fVar 5) (fVar 9)) (w := iSrc (fVar 8)) (items := tk.map nD)
        (pickF g) (walks_seq rfl rfl) (by rw [List.length_map]; have := hok.2.2; omega) fun d hd hp' _ => by
          obtain ⟨t, ht, rfl⟩ := List.mem_map.mp hd
          refine ⟨_, rfl, [], ?_⟩
          have := f_at (hp := hp') (htk t ht)
          simp [wipeD, this]
          rfl
      have e5' : (tk.map nD).map (pickF g) = tk.map fun t => nD (g.getD t 0) := by
        rw [List.map_map]
        rfl
      rw [e5'] at e5
      have hL2 : (hp ++ [o] ++ g1)[L]? = some (.lst acc) := by rw [List.append_assoc, List.getElem?_append_left hLlt]; exact hL
      have app := append_s (y := .tup [.str x, natsD ns, .tup (tk.map fun t => nD (g.getD t 0))]) hL2 (by omega)
      generalize hh2 : (hp ++ [o] ++ g1).set L (.lst (acc ++ [.tup [.str x, natsD ns, .tup (tk.map fun t => nD (g.getD t 0))]])) = hp2 at app
      -- the numbers behind it
      obtain ⟨g2, e7⟩ := tupLc_map (env := [some (cntD tops rows), some fd, some (nD (p + 1)), some (natsD s.2), some (.ref L), some (natsD g), some (.tup [.str "meet", nD p, natsD ns]), some (.str x), some (natsD tk), e, f]) (hp := hp2) (hp1 := hp2) (vs := [9, 10]) (g := gT 2 (gCons' (gN 9) (gCons' (gN 10) gNil'))) (e := fIf (tVal (fBin (gIn false) (fVar 9) (fVar 8))) (fBin gIxD (fVar 5) (fVar 9)) (fVar 10)) (w := iEnumF (fCons (fBin gIxD (fVar 6) (fC (.int 2))) fNil)) (items := enumD (ns.map nD))
        (updD g tk) (walks_enum (by simp [natsD])) (by rw [enumD_len, List.length_map]; have := S2.ln; have := W.t3; omega) fun d hd hp' _ => by
          obtain ⟨i, n, rfl, hi⟩ := enum_mem hd
          have hig : i < g.length := by rw [hg.ln, ← S2.ln]; exact (List.getElem?_eq_some_iff.mp hi).1
          refine ⟨[some (cntD tops rows), some fd, some (nD (p + 1)), some (natsD s.2), some (.ref L), some (natsD g), some (.tup [.str "meet", nD p, natsD ns]), some (.str x), some (natsD tk), some (nD i), some (nD n)], by simp [wipeD], [], ?_⟩
          have h1 := f_at (hp := hp') hig
          have h2 := in_nats (t := i) (tk := tk) (hp := hp')
          by_cases c : i ∈ tk
          · simp [h2, c, h1]
            simp [nD, c, updD]
          · simp [h2, c]
            simp [nD, c, updD]
      rw [enum_map] at e7
      have run : b_count_events_1 (envE tops rows fd s L (some (natsD g)) b c d e f) hp = .nx (envE tops rows fd (p + 1, updF g tk ns) L (some (natsD g)) (some (.tup [.str "meet", nD p, natsD ns])) (some (.str x)) (some (natsD tk)) e f) (hp2 ++ g2) := by
        unfold b_count_events_1 envE
        have isl := isL_lst (hp := hp ++ [o]) (n := L) (ys := acc) (by rw [List.getElem?_append_left hLlt]; exact hL)
        have nn : decide (natsD g = .non) = false := rfl
        simp only [fCall_e, fCons_e, fNil_e, Out.ok_bind] at e5 e7
        simp only [List.append_assoc, List.cons_append, List.nil_append] at e5 app isl
        simp only [List.getD_eq_getElem?_getD] at app
        have hc : ∀ hp, gIxD (cntD tops rows) (.int 1) hp = .ok (.tup (rows.map Row.d)) hp := fun _ => by simp [cntD]
        have hat2 : ∀ hp, gIxD (.tup (rows.map Row.d)) (nD p) hp = .ok (.tup [.str "meet", .str x, natsD tk]) hp := fun hp => by
          unfold nD
          rw [gIxD_t, hat]
        have had : ∀ hp, gAdd (nD p) (.int 1) hp = .ok (nD (p + 1)) hp := fun hp => rfl
        simp [e1, ne, hc, hat2, r1, nn, isl, e5, app, had, e7]
        rfl
      rw [run]
      refine ⟨g, fs', (p + 1, updF g tk ns), acc ++ [.tup [.str x, natsD ns, .tup (tk.map fun t => nD (g.getD t 0))]], some (.tup [.str "meet", nD p, natsD ns]), some (.str x), some (natsD tk), e, f, rfl, rfl, ?_, by simp, upd_ok W S2 hr hg, ?_, ?_⟩
      · rw [← hh2, List.getElem?_append_left (by simp; omega), List.getElem?_set_self (by simp; omega)]
      · simp [evs, hm]
      · rw [← hh2]
        refine Ext.trans ?_ (Ext.app _ _ _)
        rw [List.append_assoc]
        exact (Ext.app _ _ _).trans (Ext.set _ _ (by simp))
end
end K23
set_option Elab.async false
set_option linter.all false
set_option maxRecDepth 100000
set_option maxHeartbeats 1000000
namespace K23
open PySem PySem.Spec PyProof.Rows L2 DL
theorem gMul_t {a : List D} {k : Nat} {hp : Ht} (h : k ≤ 1000) (h2 : a.length ≤ 1000) : gMul (.tup a) (.int (k : Int)) hp = .ok (.tup (List.replicate k a).flatten) hp := by
  show (if _ then _ else _) = _
  rw [if_pos ⟨Sm.of (by omega), by omega, h2⟩, Int.toNat_natCast]
theorem rep_zero (n : Nat) : (List.replicate n [D.int 0]).flatten = (List.replicate n 0).map nD := by
  induction n with
  | zero => rfl
  | succ n ih =>
    rw [List.replicate_succ, List.flatten_cons, ih, List.replicate_succ, List.map_cons]
    rfl
section
variable {tops : List Nat} {rows : List Row}
theorem zero_ok (W : WF tops rows) : SOk tops rows 0 (List.replicate tops.length 0) := by
  refine ⟨W.r1, by simp, fun i a b e1 e2 => ?_⟩
  have := List.mem_of_getElem? e1
  rw [List.mem_replicate] at this
  omega
def feedsD (fs : List (List Nat)) : List D := fs.map natsD ++ [.non]
theorem feeds_at {fs : List (List Nat)} {i : Nat} {d : D} (h : (feedsD fs)[i]? = some d) : i ≤ fs.length ∧ d = fedOf (fs.drop i) := by
  unfold feedsD at h
  by_cases c : i < fs.length
  · rw [List.getElem?_append_left (by simpa using c), List.getElem?_map, List.getElem?_eq_getElem c] at h
    simp only [Option.map_some, Option.some.injEq] at h
    refine ⟨by omega, ?_⟩
    rw [List.drop_eq_getElem_cons c]
    exact h.symm
  · have hle := (List.getElem?_eq_some_iff.mp h).1
    simp at hle
    have e : i = fs.length := by omega
    subst e
    rw [List.getElem?_append_right (by simp)] at h
    simp at h
    exact ⟨Nat.le_refl _, by rw [List.drop_length]; exact h.symm⟩
theorem count_events_s (W : WF tops rows) {fs : List (List Nat)} (hfs : ∀ f ∈ fs, FeedOk tops f) (hl : fs.length ≤ 100) (hp : Ht) : ∃ hp', g_count_events [cntD tops rows, .tup (fs.map natsD)] hp = .ok (.tup (evs tops rows fs (0, List.replicate tops.length 0))) hp' ∧ Ext [] hp hp' := by
  have loop := for_inv (g := gN 5) (body := b_count_events_1) (src := .tup (feedsD fs)) (items := feedsD fs)
    (I := fun i env hp' => i ≤ fs.length ∧ ∃ s acc a b c d e f, env = envE tops rows (.tup (fs.map natsD)) s hp.length a b c d e f ∧ hp'[hp.length]? = some (.lst acc) ∧ acc.length = i ∧ SOk tops rows s.1 s.2 ∧ acc ++ evs tops rows (fs.drop i) s = evs tops rows fs (0, List.replicate tops.length 0) ∧ Ext [] hp hp')
    (R := fun d hp' => d = .tup (evs tops rows fs (0, List.replicate tops.length 0)) ∧ Ext [] hp hp') (fun i env hp' _ => rfl)
    (fun i d env hp' hd hI => by
      obtain ⟨hi, s, acc, a, b, c, d', e, f, rfl, h1, h2, S, h3, h4⟩ := hI
      obtain ⟨_, hd2⟩ := feeds_at hd
      have henv : (gN 5 d (envE tops rows (.tup (fs.map natsD)) s hp.length a b c d' e f) hp').so b_count_events_1 = b_count_events_1 (envE tops rows (.tup (fs.map natsD)) s hp.length (some d) b c d' e f) hp' := rfl
      rw [henv]
      have t := turnE_s (fd := .tup (fs.map natsD)) (b := b) (c := c) (d := d') (e := e) (f := f) (fed := d) (fs := fs.drop i) W S h1 (by omega) (fun g hg => hfs g (List.mem_of_mem_drop hg)) hd2
      refine Res.mono t (fun env2 hp2 h => ?_) fun d2 hp2 h => ⟨by rw [h.1, h3], h4.thru h.2 (by simp)⟩
      obtain ⟨g, fs', s', acc', b, c, d, e, f, q1, q2, q3, q4, q5, q6, q7⟩ := h
      have hlt : i < fs.length := by
        by_cases c : i < fs.length
        · exact c
        · rw [List.drop_eq_nil_of_le (by omega)] at q1; cases q1
      have hdrop : fs.drop (i + 1) = fs' := by
        rw [List.drop_eq_getElem_cons hlt] at q1
        cases q1; rfl
      refine ⟨hlt, s', acc', _, b, c, d, e, f, q2, q3, by omega, q5, ?_, h4.thru q7 (by simp)⟩
      rw [hdrop, ← q6, h3]) (fs.length + 2) 0 (envE tops rows (.tup (fs.map natsD)) (0, List.replicate tops.length 0) hp.length none none none none none none) (hp ++ [.lst []]) (by simp [feedsD]) (Nat.zero_le _)
    ⟨Nat.zero_le _, _, [], _, _, _, _, _, _, rfl, by simp, rfl, zero_ok W, by simp, Ext.app _ _ _⟩
  have body : b_count_events [some (cntD tops rows), some (.tup (fs.map natsD)), none, none, none, none, none, none, none, none, none] hp = thnS (forS (gN 5) b_count_events_1 (.tup (feedsD fs)) (fs.length + 2) 0 (envE tops rows (.tup (fs.map natsD)) (0, List.replicate tops.length 0) hp.length none none none none none none) (hp ++ [.lst []])) (sRet (fCall gTuple (fCons (fVar 4) fNil))) := by
    unfold b_count_events
    have hm : ∀ hp, gMul (.tup [.int 0]) (.int (tops.length : Int)) hp = .ok (natsD (List.replicate tops.length 0)) hp := fun hp => by
      rw [gMul_t (by have := W.t3; omega) (by simp), rep_zero]
      rfl
    have hc : ∀ hp, gIxD (cntD tops rows) (.int 0) hp = .ok (natsD tops) hp := fun _ => by simp [cntD]
    have hln : ∀ hp, gLen [natsD tops] hp = .ok (.int tops.length) hp := fun hp => by simp [natsD]
    have had : ∀ hp, gAdd (.tup (fs.map natsD)) (.tup [.non]) hp = .ok (.tup (feedsD fs)) hp := fun hp => gAdd_t (by simp; exact szn (by omega))
    have e1 : sPar [2, 3, 4] (fCons (fC (.int 0)) (fCons (fBin gMul (fTup (fCons (fC (.int 0)) fNil)) (fCall gLen (fCons (fBin gIxD (fVar 0) (fC (.int 0))) fNil))) (fCons (fLst fNil) fNil))) [some (cntD tops rows), some (.tup (fs.map natsD)), none, none, none, none, none, none, none, none, none] hp = .nx (envE tops rows (.tup (fs.map natsD)) (0, List.replicate tops.length 0) hp.length none none none none none none) (hp ++ [.lst []]) := by
      simp [hc, hln, hm]
      rfl
    rw [sSeq_e, e1, thn_nx, sSeq_e]
    have e2 : sFor (iSrc (fBin gAdd (fCall gTuple (fCons (fVar 1) fNil)) (fTup (fCons (fC .non) fNil)))) (gN 5) b_count_events_1 (envE tops rows (.tup (fs.map natsD)) (0, List.replicate tops.length 0) hp.length none none none none none none) (hp ++ [.lst []]) = forS (gN 5) b_count_events_1 (.tup (feedsD fs)) (fs.length + 2) 0 (envE tops rows (.tup (fs.map natsD)) (0, List.replicate tops.length 0) hp.length none none none none none none) (hp ++ [.lst []]) := by
      rw [sFor_e]
      simp [envE, had, lenS, feedsD]
    rw [e2]
  unfold g_count_events
  rw [runDef_e]
  show ∃ hp', ans (b_count_events [some (cntD tops rows), some (.tup (fs.map natsD)), none, none, none, none, none, none, none, none, none] hp) = _ ∧ _
  rw [body]
  obtain ⟨d', hp', e, h1, h2⟩ := ResN.ok (ResN.thn (J := fun _ _ => False) (b := sRet (fCall gTuple (fCons (fVar 4) fNil))) loop fun e hp1 hI => by
    have := hI.1
    simp [feedsD] at this
    omega)
  exact ⟨hp', by rw [e, h1], h2⟩
end
end K23
set_option Elab.async false
set_option linter.all false
set_option maxRecDepth 100000
set_option maxHeartbeats 1000000
namespace K23
open PySem PySem.Spec PyProof.Rows L2 DL
section
variable {tops : List Nat} {rows : List Row}
def envF (tops : List Nat) (rows : List Row) (fd : D) (s : Stt) (acc : List D) (a b c d e : Option D) : En := [some (cntD tops rows), some fd, some (nD s.1), some (natsD s.2), some (.tup acc), a, b, c, d, e]
theorem turnF_s (W : WF tops rows) {fd : D} {s : Stt} {b c d e : Option D} {hp : Ht} {acc : List D} {fed : D} {fs : List (List Nat)} (S : SOk tops rows s.1 s.2) (hz : acc.length ≤ 1000) (hfs : ∀ g ∈ fs, FeedOk tops g)
    (hfed : fed = fedOf fs) :
    Res (fun env' hp' => ∃ g fs' s' acc' b c d e, fs = g :: fs' ∧ env' = envF tops rows fd s' acc' (some fed) b c d e ∧ acc'.length = acc.length + 1 ∧ SOk tops rows s'.1 s'.2 ∧ acc ++ evs tops rows fs s = acc' ++ evs tops rows fs' s' ∧ Ext [] hp hp')
      (fun d hp' => d = .tup (acc ++ evs tops rows fs s) ∧ Ext [] hp hp') (b__law_count_events_1 (envF tops rows fd s acc (some fed) b c d e) hp) := by
  have e1 := law_next_s W S hp
  have ad : ∀ (v : D) hp, gAdd (.tup acc) (.tup [v]) hp = .ok (.tup (acc ++ [v])) hp := fun v hp => gAdd_t (by simp; exact szn (by omega))
  by_cases hm : ∀ x tk p ns, look tops rows (rows.length * 64 + 1) s ≠ some (.meet x tk p ns)
  · obtain ⟨⟨k, r, ek, ek2⟩, hev⟩ := told_end hm
    rw [hev fs]
    rw [ek] at e1 ⊢
    have ne : gNe (.str k) (.str "meet") hp = .ok (.bl true) hp := by
      rw [gNe_s, ek2]
      rfl
    have run : b__law_count_events_1 (envF tops rows fd s acc (some fed) b c d e) hp = .rt (.tup (acc ++ [.tup (.str k :: r)])) hp := by
      unfold b__law_count_events_1 envF
      simp only [gNe_s] at ne
      simp [e1, ne, ad]
    rw [run]
    exact ⟨rfl, Ext.refl _ _⟩
  · simp only [Classical.not_forall, Classical.not_not] at hm
    obtain ⟨x, tk, p, ns, hm⟩ := hm
    obtain ⟨S2, hr⟩ := look_ok W _ s x tk p ns S hm
    have htold : lookD tops rows (rows.length * 64 + 1) s = .tup [.str "meet", nD p, natsD ns] := by unfold lookD; rw [hm]; rfl
    rw [htold] at e1
    have hok := W.ok p _ hr
    have hat : atI (rows.map Row.d) (p : Int) = some (.tup [.str "meet", .str x, natsD tk]) := row_at hr
    have hc : ∀ hp, gIxD (cntD tops rows) (.int 1) hp = .ok (.tup (rows.map Row.d)) hp := fun _ => by simp [cntD]
    have hat2 : ∀ hp, gIxD (.tup (rows.map Row.d)) (nD p) hp = .ok (.tup [.str "meet", .str x, natsD tk]) hp := fun hp => by
      unfold nD
      rw [gIxD_t, hat]
    have had : ∀ hp, gAdd (nD p) (.int 1) hp = .ok (nD (p + 1)) hp := fun hp => rfl
    cases fs with
    | nil =>
      simp only [fedOf] at hfed
      subst hfed
      have run : b__law_count_events_1 (envF tops rows fd s acc (some .non) b c d e) hp = .rt (.tup (acc ++ [.tup [.str x, natsD ns]])) hp := by
        unfold b__law_count_events_1 envF
        simp [e1, hc, hat2, had, ad]
      rw [run]
      refine ⟨?_, Ext.refl _ _⟩
      simp [evs, hm]
    | cons g fs' =>
      simp only [fedOf] at hfed
      subst hfed
      have hg := hfs g List.mem_cons_self
      have htk : ∀ t ∈ tk, t < g.length := fun t ht => by rw [hg.ln]; exact hok.1 t ht
      obtain ⟨g1, e5⟩ := tupLc_map (env := [some (cntD tops rows), some fd, some (nD (p + 1)), some (natsD ns), some (.tup acc), some (natsD g), some (.tup [.str "meet", nD p, natsD ns]), some (.tup [.str "meet", .str x, natsD tk]), d, e]) (hp := hp) (hp1 := hp) (vs := [8]) (g := gN 8) (e := fBin gIxD (fVar 5) (fVar 8)) (w := iSrc (fBin gIxD (fVar 7) (fC (.int 2)))) (items := tk.map nD)
        (pickF g) (walks_seq (d := natsD tk) (by simp) rfl) (by rw [List.length_map]; have := hok.2.2; omega) fun d hd hp' _ => by
          obtain ⟨t, ht, rfl⟩ := List.mem_map.mp hd
          refine ⟨_, rfl, [], ?_⟩
          have := f_at (hp := hp') (htk t ht)
          simp [wipeD, this]
          rfl
      have e5' : (tk.map nD).map (pickF g) = tk.map fun t => nD (g.getD t 0) := by
        rw [List.map_map]
        rfl
      rw [e5'] at e5
      obtain ⟨g2, e7⟩ := tupLc_map (env := [some (cntD tops rows), some fd, some (nD (p + 1)), some (natsD ns), some (.tup (acc ++ [.tup [.str x, natsD ns, .tup (tk.map fun t => nD (g.getD t 0))]])), some (natsD g), some (.tup [.str "meet", nD p, natsD ns]), some (.tup [.str "meet", .str x, natsD tk]), d, e]) (hp := hp ++ g1) (hp1 := hp ++ g1) (vs := [8, 9]) (g := gT 2 (gCons' (gN 8) (gCons' (gN 9) gNil'))) (e := fIf (tVal (fBin (gIn false) (fVar 8) (fBin gIxD (fVar 7) (fC (.int 2))))) (fBin gIxD (fVar 5) (fVar 8)) (fVar 9)) (w := iEnumF (fCons (fVar 3) fNil)) (items := enumD (ns.map nD))
        (updD g tk) (walks_enum (by simp [natsD])) (by rw [enumD_len, List.length_map]; have := S2.ln; have := W.t3; omega) fun dd hd hp' _ => by
          obtain ⟨i, n, rfl, hi⟩ := enum_mem hd
          have hig : i < g.length := by rw [hg.ln, ← S2.ln]; exact (List.getElem?_eq_some_iff.mp hi).1
          refine ⟨[some (cntD tops rows), some fd, some (nD (p + 1)), some (natsD ns), some (.tup (acc ++ [.tup [.str x, natsD ns, .tup (tk.map fun t => nD (g.getD t 0))]])), some (natsD g), some (.tup [.str "meet", nD p, natsD ns]), some (.tup [.str "meet", .str x, natsD tk]), some (nD i), some (nD n)], by simp [wipeD], [], ?_⟩
          have h1 := f_at (hp := hp') hig
          have h2 := in_nats (t := i) (tk := tk) (hp := hp')
          by_cases c : i ∈ tk
          · simp [h2, c, h1]
            simp [nD, c, updD]
          · simp [h2, c]
            simp [nD, c, updD]
      rw [enum_map] at e7
      have run : b__law_count_events_1 (envF tops rows fd s acc (some (natsD g)) b c d e) hp = .nx (envF tops rows fd (p + 1, updF g tk ns) (acc ++ [.tup [.str x, natsD ns, .tup (tk.map fun t => nD (g.getD t 0))]]) (some (natsD g)) (some (.tup [.str "meet", nD p, natsD ns])) (some (.tup [.str "meet", .str x, natsD tk])) d e) (hp ++ g1 ++ g2) := by
        unfold b__law_count_events_1 envF
        have nn : decide (natsD g = .non) = false := rfl
        simp only [fCall_e, fCons_e, fNil_e, Out.ok_bind, List.append_assoc, List.getD_eq_getElem?_getD] at e5 e7
        simp [e1, hc, hat2, had, nn, e5, ad, e7]
        rfl
      rw [run]
      refine ⟨g, fs', (p + 1, updF g tk ns), acc ++ [.tup [.str x, natsD ns, .tup (tk.map fun t => nD (g.getD t 0))]], some (.tup [.str "meet", nD p, natsD ns]), some (.tup [.str "meet", .str x, natsD tk]), d, e, rfl, rfl, by simp, upd_ok W S2 hr hg, ?_, ?_⟩
      · simp [evs, hm]
      · rw [List.append_assoc]; exact Ext.app _ _ _
theorem law_events_s (W : WF tops rows) {fs : List (List Nat)} (hfs : ∀ f ∈ fs, FeedOk tops f) (hl : fs.length ≤ 100) (hp : Ht) : ∃ hp', g__law_count_events [cntD tops rows, .tup (fs.map natsD)] hp = .ok (.tup (evs tops rows fs (0, List.replicate tops.length 0))) hp' ∧ Ext [] hp hp' := by
  have loop := for_inv (g := gN 5) (body := b__law_count_events_1) (src := .tup (feedsD fs)) (items := feedsD fs)
    (I := fun i env hp' => i ≤ fs.length ∧ ∃ s acc a b c d e, env = envF tops rows (.tup (fs.map natsD)) s acc a b c d e ∧ acc.length = i ∧ SOk tops rows s.1 s.2 ∧ acc ++ evs tops rows (fs.drop i) s = evs tops rows fs (0, List.replicate tops.length 0) ∧ Ext [] hp hp')
    (R := fun d hp' => d = .tup (evs tops rows fs (0, List.replicate tops.length 0)) ∧ Ext [] hp hp') (fun i env hp' _ => rfl)
    (fun i d env hp' hd hI => by
      obtain ⟨hi, s, acc, a, b, c, d', e, rfl, h2, S, h3, h4⟩ := hI
      obtain ⟨_, hd2⟩ := feeds_at hd
      have henv : (gN 5 d (envF tops rows (.tup (fs.map natsD)) s acc a b c d' e) hp').so b__law_count_events_1 = b__law_count_events_1 (envF tops rows (.tup (fs.map natsD)) s acc (some d) b c d' e) hp' := rfl
      rw [henv]
      have t := turnF_s (fd := .tup (fs.map natsD)) (b := b) (c := c) (d := d') (e := e) (fed := d) (fs := fs.drop i) (hp := hp') W S (acc := acc) (by omega) (fun g hg => hfs g (List.mem_of_mem_drop hg)) hd2
      refine Res.mono t (fun env2 hp2 h => ?_) fun d2 hp2 h => ⟨by rw [h.1, h3], h4.trans h.2⟩
      obtain ⟨g, fs', s', acc', b, c, d, e, q1, q2, q4, q5, q6, q7⟩ := h
      have hlt : i < fs.length := by
        by_cases c : i < fs.length
        · exact c
        · rw [List.drop_eq_nil_of_le (by omega)] at q1; cases q1
      have hdrop : fs.drop (i + 1) = fs' := by
        rw [List.drop_eq_getElem_cons hlt] at q1
        cases q1; rfl
      refine ⟨hlt, s', acc', _, b, c, d, e, q2, by omega, q5, ?_, h4.trans q7⟩
      rw [hdrop, ← q6, h3]) (fs.length + 2) 0 (envF tops rows (.tup (fs.map natsD)) (0, List.replicate tops.length 0) [] none none none none none) hp (by simp [feedsD]) (Nat.zero_le _)
    ⟨Nat.zero_le _, _, [], _, _, _, _, _, rfl, rfl, zero_ok W, by simp, Ext.refl _ _⟩
  have body : b__law_count_events [some (cntD tops rows), some (.tup (fs.map natsD)), none, none, none, none, none, none, none, none] hp = thnS (forS (gN 5) b__law_count_events_1 (.tup (feedsD fs)) (fs.length + 2) 0 (envF tops rows (.tup (fs.map natsD)) (0, List.replicate tops.length 0) [] none none none none none) hp) (sRet (fVar 4)) := by
    unfold b__law_count_events
    have hm : ∀ hp, gMul (.tup [.int 0]) (.int (tops.length : Int)) hp = .ok (natsD (List.replicate tops.length 0)) hp := fun hp => by
      rw [gMul_t (by have := W.t3; omega) (by simp), rep_zero]
      rfl
    have hc : ∀ hp, gIxD (cntD tops rows) (.int 0) hp = .ok (natsD tops) hp := fun _ => by simp [cntD]
    have hln : ∀ hp, gLen [natsD tops] hp = .ok (.int tops.length) hp := fun hp => by simp [natsD]
    have had : ∀ hp, gAdd (.tup (fs.map natsD)) (.tup [.non]) hp = .ok (.tup (feedsD fs)) hp := fun hp => gAdd_t (by simp; exact szn (by omega))
    have e1 : sPar [2, 3, 4] (fCons (fC (.int 0)) (fCons (fBin gMul (fTup (fCons (fC (.int 0)) fNil)) (fCall gLen (fCons (fBin gIxD (fVar 0) (fC (.int 0))) fNil))) (fCons (fTup fNil) fNil))) [some (cntD tops rows), some (.tup (fs.map natsD)), none, none, none, none, none, none, none, none] hp = .nx (envF tops rows (.tup (fs.map natsD)) (0, List.replicate tops.length 0) [] none none none none none) hp := by
      simp [hc, hln, hm]
      rfl
    rw [sSeq_e, e1, thn_nx, sSeq_e]
    have e2 : sFor (iSrc (fBin gAdd (fCall gTuple (fCons (fVar 1) fNil)) (fTup (fCons (fC .non) fNil)))) (gN 5) b__law_count_events_1 (envF tops rows (.tup (fs.map natsD)) (0, List.replicate tops.length 0) [] none none none none none) hp = forS (gN 5) b__law_count_events_1 (.tup (feedsD fs)) (fs.length + 2) 0 (envF tops rows (.tup (fs.map natsD)) (0, List.replicate tops.length 0) [] none none none none none) hp := by
      rw [sFor_e]
      simp [envF, had, lenS, feedsD]
    rw [e2]
  unfold g__law_count_events
  rw [runDef_e]
  show ∃ hp', ans (b__law_count_events [some (cntD tops rows), some (.tup (fs.map natsD)), none, none, none, none, none, none, none, none] hp) = _ ∧ _
  rw [body]
  obtain ⟨d', hp', e, h1, h2⟩ := ResN.ok (ResN.thn (J := fun _ _ => False) (b := sRet (fVar 4)) loop fun e hp1 hI => by
    have := hI.1
    simp [feedsD] at this
    omega)
  exact ⟨hp', by rw [e, h1], h2⟩
end
end K23
set_option Elab.async false
set_option linter.all false
set_option maxRecDepth 100000
set_option maxHeartbeats 1000000
namespace K23
open PySem PySem.Spec PyProof.Rows L2 DL
theorem hT : TakeS g__law_take := take_s (c1 := 39373) (c2 := 743) (c3 := 2147483647) (c4 := 40692) (c5 := 211) (c6 := 2147483563) (c7 := 2147483629) (c8 := 7919) (by constructor <;> (unfold Cst; decide))
theorem hPick : PickS g__law_pick := pick_s hT
theorem hMix : MixS g__law_mixed := mix_s hT
theorem hLot : LotS g__law_lot := lot_s
theorem hBox : BoxS g__law_box := box_s (c1 := 52361) (c2 := 7451) (c3 := 2147483563) (c4 := 60913) (c5 := 2147483563) (c6 := 48271) (c7 := 7919) (c8 := 2147483563) (by constructor <;> (unfold Cst; decide))
theorem hSame {d : D} (h : Pln 39 d) (hp : Ht) : ∃ g, g__law_same [d, d] hp = .ok (.bl true) (hp ++ g) := same_s 39 d h hp
/-- a list of drawn numbers -/
theorem nats_of {ys : List D} {Q : Nat → Nat → Prop} (h : ∀ (i : Nat) (y : D), ys[i]? = some y → ∃ t : Nat, y = nD t ∧ Q i t) : ∃ ts : List Nat, ys = ts.map nD ∧ ∀ (i t : Nat), ts[i]? = some t → Q i t := by
  have : ∀ (ys : List D) (k : Nat), (∀ (i : Nat) (y : D), ys[i]? = some y → ∃ t : Nat, y = nD t ∧ Q (i + k) t) → ∃ ts : List Nat, ys = ts.map nD ∧ ∀ (i t : Nat), ts[i]? = some t → Q (i + k) t := by
    intro ys
    induction ys with
    | nil => exact fun k _ => ⟨[], rfl, fun i t h => by simp at h⟩
    | cons y ys ih =>
      intro k h
      obtain ⟨t, e, q⟩ := h 0 y rfl
      obtain ⟨ts, e2, q2⟩ := ih (k + 1) fun i y' hy => by
        obtain ⟨t, a, b⟩ := h (i + 1) y' (by simpa using hy)
        exact ⟨t, a, by rw [show i + (k + 1) = i + 1 + k by omega]; exact b⟩
      refine ⟨t :: ts, by rw [e, e2]; rfl, fun i t' hi => ?_⟩
      cases i with
      | zero => simp at hi; subst hi; exact q
      | succ i =>
        have := q2 i t' (by simpa using hi)
        rw [show i + 1 + k = i + (k + 1) by omega]
        exact this
  exact this ys 0 h
theorem feed_s {tops : List Nat} {hp : Ht} {n many : Nat} (hb : Box hp n) (ht : ∀ t ∈ tops, t ≤ 1000) (hl : tops.length ≤ 1000) (hm : many ≤ 1000) : ∃ (fs : List (List Nat)) (hp' : Ht), g__law_feed [.ref n, natsD tops, nD many] hp = .ok (.tup (fs.map natsD)) hp' ∧ fs.length = many ∧ (∀ f ∈ fs, FeedOk tops f) ∧ Box hp' n ∧ Ext [n] hp hp' := by
  obtain ⟨ys, hp', e1, e2, e3, e4, e5⟩ := tupLc_box (n := n) (env := [some (.ref n), some (natsD tops), some (nD many), none, none]) (hp := hp) (hp1 := hp) (vs := [3]) (g := gN 3) (e := fCall gTuple (fCons (fLc (iSrc (fVar 1)) (gN 4) tYesF (fCall (g__law_take) (fCons (fVar 0) (fCons (fBin gAdd (fVar 4) (fC (.int 1))) fNil))) [4]) fNil)) (w := iRange1 (fCons (fVar 2) fNil)) (items := ranD many)
    (fun _ y => ∃ f, y = natsD f ∧ FeedOk tops f) (walksB_range (k := many) rfl (by omega)) (by rw [ranD_len]; omega) hb fun x _ hp2 _ hb2 => by
      refine ⟨[some (.ref n), some (natsD tops), some (nD many), some x, none], rfl, ?_⟩
      obtain ⟨zs, hp3, q1, q2, q3, q4, q5⟩ := tupLc_box (n := n) (env := [some (.ref n), some (natsD tops), some (nD many), some x, none]) (hp := hp2) (hp1 := hp2) (vs := [4]) (g := gN 4) (e := fCall (g__law_take) (fCons (fVar 0) (fCons (fBin gAdd (fVar 4) (fC (.int 1))) fNil))) (w := iSrc (fVar 1)) (items := tops.map nD)
        (fun a y => ∃ t u : Nat, a = nD t ∧ y = nD u ∧ u ≤ t) (walksB_tup rfl) (by rw [List.length_map]; omega) hb2 fun a ha hp4 _ hb4 => by
          obtain ⟨t, htm, rfl⟩ := List.mem_map.mp ha
          refine ⟨[some (.ref n), some (natsD tops), some (nD many), some x, some (nD t)], rfl, ?_⟩
          obtain ⟨r, hp5, s1, s2, s3, s4, s5⟩ := hT hp4 n (t + 1) hb4 (by omega) (by have := ht t htm; omega)
          refine ⟨nD r, hp5, ?_, ⟨t, r, rfl, rfl, by omega⟩, s3, s4⟩
          have hh : gAdd (nD t) (.int 1) hp4 = .ok (.int ((t + 1 : Nat) : Int)) hp4 := rfl
          simp [hh]
          exact s1
      obtain ⟨f, ef, qf⟩ := nats_of (ys := zs) (Q := fun i u => ∀ t, tops[i]? = some t → u ≤ t) fun i y hy => by
        have hi : i < tops.length := by
          have := (List.getElem?_eq_some_iff.mp hy).1
          simp at q2
          omega
        obtain ⟨t, u, a, b, c⟩ := q3 i (nD tops[i]) y (by rw [List.getElem?_map, List.getElem?_eq_getElem hi]; rfl) hy
        refine ⟨u, b, fun t' ht' => ?_⟩
        rw [List.getElem?_eq_getElem hi] at ht'
        cases ht'
        simp only [nD, D.int.injEq] at a
        omega
      subst ef
      refine ⟨natsD f, hp3, ?_, ⟨f, rfl, ⟨by simpa using q2, fun i a b h1 h2 => qf i a h1 b h2⟩⟩, q4, q5⟩
      exact q1
  have : ∃ fs : List (List Nat), ys = fs.map natsD ∧ ∀ f ∈ fs, FeedOk tops f := by
    have h : ∀ y ∈ ys, ∃ f, y = natsD f ∧ FeedOk tops f := fun y hy => by
      obtain ⟨i, hi⟩ := List.getElem?_of_mem hy
      have hlt : i < (ranD many).length := by rw [← e2]; exact (List.getElem?_eq_some_iff.mp hi).1
      exact e3 i _ y (List.getElem?_eq_getElem hlt) hi
    clear e1 e2 e3 e4 e5
    induction ys with
    | nil => exact ⟨[], rfl, fun f h => by simp at h⟩
    | cons y ys ih =>
      obtain ⟨f, a, b⟩ := h y List.mem_cons_self
      obtain ⟨fs, c, d⟩ := ih fun z hz => h z (List.mem_cons_of_mem _ hz)
      exact ⟨f :: fs, by rw [a, c]; rfl, fun g hg => by
        rcases List.mem_cons.mp hg with rfl | hg
        · exact b
        · exact d g hg⟩
  obtain ⟨fs, rfl, hfs⟩ := this
  refine ⟨fs, hp', ?_, by simpa [ranD_len] using e2, hfs, e4, e5⟩
  unfold g__law_feed
  rw [runDef_e]
  show ans (b__law_feed [some (.ref n), some (natsD tops), some (nD many), none, none] hp) = _
  unfold b__law_feed
  rw [sRet_e, e1]
  rfl
end K23
set_option Elab.async false
set_option linter.all false
set_option maxRecDepth 100000
set_option maxHeartbeats 2000000
namespace K23
open PySem PySem.Spec PyProof.Rows L2 DL
section
variable {tops : List Nat} {n many : Nat} {hp : Ht}
theorem take_e (hb : Box hp n) (k : Nat) (h1 : 1 ≤ k) (h2 : k ≤ 1000000) : ∃ (r : Nat) (hp' : Ht), g__law_take [.ref n, nD k] hp = .ok (nD r) hp' ∧ r < k ∧ Box hp' n ∧ Ext [n] hp hp' := by
  obtain ⟨r, hp', e, a, b, c, _⟩ := hT hp n k hb h1 h2
  exact ⟨r, hp', e, a, b, c⟩
def envA (n : Nat) (calls : D) (tops : List Nat) (many Lr place : Nat) (a b c d e : Option D) : En := [some (.ref n), some calls, some (natsD tops), some (nD many), some (.ref Lr), some (nD place), a, b, c, d, e]
/-- the first part of what may be drawn -/
def some1 : EF := (fLst (fCons (fTup (fCons (fC (.str "up")) (fCons (fVar 6) fNil))) (fCons (fTup (fCons (fC (.str "up")) (fCons (fVar 6) fNil))) (fCons (fTup (fCons (fC (.str "zero")) (fCons (fVar 6) fNil))) (fCons (fTup (fCons (fC (.str "test")) (fCons (fVar 6) (fCons (fVar 7) fNil)))) (fCons (fTup (fCons (fC (.str "test")) (fCons (fVar 6) (fCons (fVar 7) fNil)))) (fCons (fTup (fCons (fC (.str "go")) (fCons (fVar 7) fNil))) (fCons (fTup (fCons (fC (.str "meet")) (fCons (fCall (g__law_pick) (fCons (fVar 0) (fCons (fLst (fCons (fC (.str "a")) (fCons (fC (.str "b")) fNil))) fNil))) (fCons (fCall (g__law_lot) (fCons (fLc (iRange1 (fCons (fCall (g__law_take) (fCons (fVar 0) (fCons (fC (.int 4)) fNil))) fNil)) (gN 10) tYesF (fCall (g__law_take) (fCons (fVar 0) (fCons (fCall gLen (fCons (fVar 2) fNil)) fNil))) [10]) fNil)) fNil)))) fNil))))))))
theorem some1_s {calls : D} {Lr place a b : Nat} {c d e : Option D} (hb : Box hp n) (ht : tops.length ≤ 3) (h1 : 1 ≤ tops.length) (ha : a < tops.length) (hbm : b < many) :
    ∃ (xs : List D) (hp' : Ht), some1 (envA n calls tops many Lr place (some (nD a)) (some (nD b)) c d e) hp = .ok (.ref hp'.length) (hp' ++ [.lst xs]) ∧ xs.length = 7 ∧ (place + 1 < many → ∀ x ∈ xs, ∃ r : Row, x = r.d ∧ RowOk tops many place r) ∧ Box hp' n ∧ Ext [n] hp hp' := by
  have hnl := hb.lt
  -- the name
  obtain ⟨x, hp2, e1, hx, b2, x2, l2⟩ := hPick (hp ++ [.lst [.str "a", .str "b"]]) n (.ref hp.length) [.str "a", .str "b"] (hb.ext (Ext.app [] _ _) (by simp)) (lsOf_lst (by simp)) (by simp) (by simp) (by simp; omega)
  -- how many
  obtain ⟨k, hp3, e2, hk, b3, x3⟩ := take_e b2 4 (by omega) (by omega)
  -- the lot
  obtain ⟨ys, hp4, e3, f3, l3, p3, b4, x4⟩ := lc_box (n := n) (env := envA n calls tops many Lr place (some (nD a)) (some (nD b)) c d e) (hp := hp2) (hp1 := hp3) (vs := [10]) (g := gN 10) (e := (fCall (g__law_take) (fCons (fVar 0) (fCons (fCall gLen (fCons (fVar 2) fNil)) fNil)))) (w := iRange1 (fCons (fCall (g__law_take) (fCons (fVar 0) (fCons (fC (.int 4)) fNil))) fNil)) (items := ranD k)
    (fun _ y => ∃ t : Nat, y = nD t ∧ t < tops.length) (walksB_range (k := k) (by
      have e2' : g__law_take [.ref n, .int 4] hp2 = .ok (.int (k : Int)) hp3 := e2
      simp [envA, e2']) (by omega)) (by rw [ranD_len]; omega) b3 fun z _ hp5 _ hb5 => by
      refine ⟨envA n calls tops many Lr place (some (nD a)) (some (nD b)) c d (some z), rfl, ?_⟩
      obtain ⟨r, hp6, s1, s2, s3, s4⟩ := take_e hb5 tops.length h1 (by omega)
      refine ⟨nD r, hp6, ?_, ⟨r, rfl, s2⟩, s3, s4⟩
      have : gLen [natsD tops] hp5 = .ok (nD tops.length) hp5 := by simp [natsD, nD]
      simp [envA, this, s1]
  obtain ⟨ts, ets, qts⟩ := nats_of (ys := ys) (Q := fun _ t => t < tops.length) fun i y hy => by
    have hi : i < (ranD k).length := by rw [← l3]; exact (List.getElem?_eq_some_iff.mp hy).1
    exact p3 i _ y (List.getElem?_eq_getElem hi) hy
  have hys : ys = (ts.map fun t : Nat => (t : Int)).map D.int := by rw [ets, List.map_map]; rfl
  obtain ⟨js, g6, e4, m4, _, n4⟩ := hLot hp4 (.ref hp3.length) (ts.map fun t : Nat => (t : Int)) (by rw [← hys]; exact lsOf_lst f3) (by
    rw [List.length_map]
    have : ys.length = ts.length := by rw [ets, List.length_map]
    rw [ranD_len] at l3
    omega)
  have hjs : ∀ j ∈ js, 0 ≤ j ∧ j < tops.length := fun j hj => by
    obtain ⟨t, ht2, rfl⟩ := List.mem_map.mp ((m4 j).mp hj)
    obtain ⟨i, hi⟩ := List.getElem?_of_mem ht2
    have := qts i t hi
    omega
  have ejs : js.map D.int = (js.map Int.toNat).map nD := by
    rw [List.map_map]
    apply List.map_congr_left
    intro j hj
    have := hjs j hj
    show D.int j = D.int ((j.toNat : Nat) : Int)
    rw [Int.toNat_of_nonneg this.1]
  refine ⟨[.tup [.str "up", nD a], .tup [.str "up", nD a], .tup [.str "zero", nD a], .tup [.str "test", nD a, nD b], .tup [.str "test", nD a, nD b], .tup [.str "go", nD b], .tup [.str "meet", x, .tup (js.map D.int)]], hp4 ++ g6, ?_, rfl, fun hpl z hz => ?_, b4.ext (Ext.app [] _ _) (by simp), ?_⟩
  · have szs : 7 ≤ sizeLine := by decide
    unfold some1
    simp only [envA] at e3 ⊢
    simp [e1, e3, e4, szs]
  · have hx' : ∃ s : Str, x = .str s := by
      rcases List.mem_cons.mp hx with rfl | hx
      · exact ⟨_, rfl⟩
      · rcases List.mem_cons.mp hx with rfl | hx
        · exact ⟨_, rfl⟩
        · cases hx
    obtain ⟨s, rfl⟩ := hx'
    simp only [List.mem_cons, List.not_mem_nil, or_false] at hz
    rcases hz with rfl | rfl | rfl | rfl | rfl | rfl | rfl
    · exact ⟨.up a, rfl, ha, hpl⟩
    · exact ⟨.up a, rfl, ha, hpl⟩
    · exact ⟨.zero a, rfl, ha, hpl⟩
    · exact ⟨.test a b, rfl, ha, hbm, hpl⟩
    · exact ⟨.test a b, rfl, ha, hbm, hpl⟩
    · exact ⟨.go b, rfl, hbm⟩
    · refine ⟨.meet s (js.map Int.toNat), by rw [ejs]; rfl, fun t ht2 => ?_, hpl, ?_⟩
      · obtain ⟨j, hj, rfl⟩ := List.mem_map.mp ht2
        have := hjs j hj
        omega
      · rw [List.length_map] at n4 ⊢
        have : ys.length = ts.length := by rw [ets, List.length_map]
        rw [ranD_len] at l3
        omega
  · have z1 : Ext [n] hp (hp ++ [.lst [.str "a", .str "b"]]) := Ext.app _ _ _
    exact (((z1.trans x2).trans x3).trans x4).trans (Ext.app _ _ _)
end
end K23
set_option Elab.async false
set_option linter.all false
set_option maxRecDepth 100000
set_option maxHeartbeats 2000000
namespace K23
open PySem PySem.Spec PyProof.Rows L2 DL
theorem gMul_l {m k : Nat} {hp : Ht} {xs : List D} (h : hp[m]? = some (.lst xs)) (hk : k ≤ 1000) (hx : xs.length ≤ 1000) : gMul (.ref m) (nD k) hp = .ok (.ref hp.length) (hp ++ [.lst (List.replicate k xs).flatten]) := by
  unfold gMul nD
  simp only [h]
  rw [if_pos, Int.toNat_natCast]
  refine ⟨Sm.of (by omega), ?_⟩
  rw [Int.toNat_natCast]
  have : xs.length * k ≤ 1000 * 1000 := Nat.mul_le_mul hx hk
  rw [sizeLine_eq]
  omega
section
variable {tops : List Nat} {n many : Nat} {hp : Ht}
def some2 : EF := (fBin gAdd (fBin gAdd (fVar 8) (fLst (fCons (fTup (fCons (fC (.str "end")) fNil)) fNil))) (fBin gMul (fLst (fCons (fTup (fCons (fC (.str "call")) (fCons (fCall (g__law_take) (fCons (fVar 0) (fCons (fC (.int 2)) fNil))) (fCons (fCall gTuple (fCons (fSl (fCall (g__law_mixed) (fCons (fVar 0) (fCons (fLstRg (fRg1 (fCall gLen (fCons (fVar 2) fNil)))) fNil))) fNoPart (fPart (fCall (g__law_take) (fCons (fVar 0) (fCons (fC (.int 3)) fNil))))) fNil)) fNil)))) fNil)) (fVar 1)))
theorem some2_s {Lr place a b m calls : Nat} {d e : Option D} {xs : List D} (hb : Box hp n) (ht : tops.length ≤ 3) (h1 : 1 ≤ tops.length) (hm : hp[m]? = some (.lst xs)) (hmn : m ≠ n) (hx : xs.length = 7) (hc : calls ≤ 1)
    (hok : place + 1 < many → ∀ x ∈ xs, ∃ r : Row, x = r.d ∧ RowOk tops many place r) :
    ∃ (ys : List D) (hp' : Ht), some2 (envA n (nD calls) tops many Lr place (some (nD a)) (some (nD b)) (some (.ref m)) d e) hp = .ok (.ref hp'.length) (hp' ++ [.lst ys]) ∧ 7 ≤ ys.length ∧ ys.length ≤ 9 ∧ (place + 1 < many → ∀ x ∈ ys, ∃ r : Row, x = r.d ∧ RowOk tops many place r) ∧ Box hp' n ∧ Ext [n] hp hp' := by
  have hnl := hb.lt
  have hml : m < hp.length := (List.getElem?_eq_some_iff.mp hm).1
  have a1 := gAdd_l (hp := hp ++ [.lst [D.tup [.str "end"]]]) (a := m) (b := hp.length) (ys := xs) (zs := [D.tup [.str "end"]]) (by rw [List.getElem?_append_left hml]; exact hm) (by simp) (by simp; omega)
  simp only [List.length_append, List.length_singleton, List.append_assoc, List.cons_append, List.nil_append] at a1
  generalize hB : hp ++ [O.lst [D.tup [.str "end"]], .lst (xs ++ [D.tup [.str "end"]])] = hpB at a1
  have xB : Ext [n] hp hpB := by rw [← hB]; exact Ext.app _ _ _
  have bB : Box hpB n := by rw [← hB]; exact hb.ext (Ext.app [] _ _) (by simp)
  have mB : hpB[hp.length + 1]? = some (.lst (xs ++ [D.tup [.str "end"]])) := by
    rw [← hB, List.getElem?_append_right (by omega)]
    simp
  obtain ⟨r1, hp2, e2, hr1, b2, x2⟩ := take_e bB 2 (by omega) (by omega)
  obtain ⟨q, ys, hp3, e3, f3, p3, l3, b3, x3⟩ := hMix (hp2 ++ [.lst (rgD 0 tops.length)]) n (.ref hp2.length) (rgD 0 tops.length) (b2.ext (Ext.app [] _ _) (by simp)) (lsOf_lst (by simp)) (by simp [rgD]; omega) (by simp; have := b2.lt; omega)
  obtain ⟨c, hp4, e4, hc4, b4, x4⟩ := take_e b3 3 (by omega) (by omega)
  have hq : q ≠ n := by
    simp at l3
    have := b2.lt
    omega
  have f4 : hp4[q]? = some (.lst ys) := x4.some f3 (by simp; exact hq)
  have e5 : gSl (.ref q) none (some (c : Int)) hp4 = .ok (.ref hp4.length) (hp4 ++ [.lst (cutD ys none (some (c : Int)))]) := by
    unfold gSl
    simp only [lsOf_lst f4]
  generalize hcut : cutD ys none (some (c : Int)) = cut at e5
  have e6 : gTuple [.ref hp4.length] (hp4 ++ [.lst cut]) = .ok (.tup cut) (hp4 ++ [.lst cut]) := gTuple_r (lsOf_lst (by simp))
  have e7 := gMul_l (m := hp4.length + 1) (k := calls) (hp := hp4 ++ [.lst cut, .lst [D.tup [.str "call", nD r1, .tup cut]]]) (xs := [D.tup [.str "call", nD r1, .tup cut]]) (by rw [List.getElem?_append_right (by omega)]; simp) (by omega) (by simp)
  have x24 : Ext [n] hpB hp4 := ((x2.trans (Ext.app _ _ _)).trans x3).trans x4
  have hpn : hp.length + 1 ≠ n := by omega
  have m4 : hp4[hp.length + 1]? = some (.lst (xs ++ [D.tup [.str "end"]])) := x24.some mB (by simp; exact hpn)
  have m4l := (List.getElem?_eq_some_iff.mp m4).1
  have hrepl : (List.replicate calls [D.tup [.str "call", nD r1, .tup cut]]).flatten.length ≤ 1 := by
    have : calls = 0 ∨ calls = 1 := by omega
    rcases this with rfl | rfl <;> simp
  have e8 := gAdd_l (hp := hp4 ++ [.lst cut, .lst [D.tup [.str "call", nD r1, .tup cut]]] ++ [.lst (List.replicate calls [D.tup [.str "call", nD r1, .tup cut]]).flatten]) (a := hp.length + 1) (b := (hp4 ++ [O.lst cut, .lst [D.tup [.str "call", nD r1, .tup cut]]]).length) (ys := xs ++ [D.tup [.str "end"]]) (zs := (List.replicate calls [D.tup [.str "call", nD r1, .tup cut]]).flatten)
    (by rw [List.append_assoc, List.getElem?_append_left m4l]; exact m4) (by simp) (by rw [List.length_append, List.length_singleton]; omega)
  refine ⟨xs ++ [D.tup [.str "end"]] ++ (List.replicate calls [D.tup [.str "call", nD r1, .tup cut]]).flatten, hp4 ++ [.lst cut, .lst [D.tup [.str "call", nD r1, .tup cut]]] ++ [.lst (List.replicate calls [D.tup [.str "call", nD r1, .tup cut]]).flatten], ?_, by simp; omega, by simp only [List.length_append, List.length_singleton]; omega, fun hpl x hxm => ?_, ?_, ?_⟩
  · have hln : ∀ hp, gLen [natsD tops] hp = .ok (.int tops.length) hp := fun hp => by simp [natsD]
    have e2' : g__law_take [.ref n, .int 2] hpB = .ok (nD r1) hp2 := e2
    have e4' : g__law_take [.ref n, .int 3] hp3 = .ok (.int (c : Int)) hp4 := e4
    have hrg := fLstRg1_s (env := envA n (nD calls) tops many Lr place (some (nD a)) (some (nD b)) (some (.ref m)) d e) (hp := hp2) (hp1 := hp2) (f := fCall gLen (fCons (fVar 2) fNil)) (n := tops.length) (by simp [envA, hln]) (by omega)
    unfold some2
    simp only [envA] at hrg
    simp only [List.length_append, List.length_cons, List.length_nil, Nat.zero_add, Nat.reduceAdd, List.append_assoc, List.cons_append, List.nil_append] at e8 e7 e6 ⊢
    simp [envA, a1, hB, e2', hln, hrg, e3, e4', e5, e6, e7]
    simpa using e8
  · rcases List.mem_append.mp hxm with hxm | hxm
    · rcases List.mem_append.mp hxm with hxm | hxm
      · exact hok hpl x hxm
      · simp at hxm
        subst hxm
        exact ⟨.fin, rfl, trivial⟩
    · have : x = D.tup [.str "call", nD r1, .tup cut] := by
        obtain ⟨l, hl, hxl⟩ := List.mem_flatten.mp hxm
        rw [List.mem_replicate] at hl
        rw [hl.2] at hxl
        simpa using hxl
      subst this
      exact ⟨.call (nD r1) (.tup cut), rfl, hpl⟩
  · rw [List.append_assoc]; exact b4.ext (Ext.app [] _ _) (by simp)
  · rw [List.append_assoc]; exact (xB.trans x24).trans (Ext.app _ _ _)
/-- the row that is put behind -/
def rowE : EF := (fIf (tVal (fBin gLt (fVar 5) (fBin gSub (fVar 3) (fC (.int 1))))) (fCall (g__law_pick) (fCons (fVar 0) (fCons (fVar 8) fNil))) (fCall (g__law_pick) (fCons (fVar 0) (fCons (fLst (fCons (fTup (fCons (fC (.str "end")) fNil)) (fCons (fTup (fCons (fC (.str "go")) (fCons (fVar 7) fNil))) (fCons (fTup (fCons (fC (.str "go")) (fCons (fC (.int 0)) fNil))) fNil)))) fNil))))
theorem rowE_s {Lr place b m calls : Nat} {a d e : Option D} {xs : List D} (hb : Box hp n) (hbm : b < many) (hm : hp[m]? = some (.lst xs)) (hmn : m ≠ n) (hx : 7 ≤ xs.length ∧ xs.length ≤ 9)
    (hok : place + 1 < many → ∀ x ∈ xs, ∃ r : Row, x = r.d ∧ RowOk tops many place r) :
    ∃ (r : Row) (hp' : Ht), rowE (envA n (nD calls) tops many Lr place a (some (nD b)) (some (.ref m)) d e) hp = .ok r.d hp' ∧ RowOk tops many place r ∧ Box hp' n ∧ Ext [n] hp hp' := by
  have hnl := hb.lt
  by_cases c : place + 1 < many
  · obtain ⟨x, hp', e1, hxm, b1, x1, _⟩ := hPick hp n (.ref m) xs hb (lsOf_lst hm) (by omega) (by omega) (by simp; exact hmn)
    obtain ⟨r, rfl, hr⟩ := hok c x hxm
    refine ⟨r, hp', ?_, hr, b1, x1⟩
    have c' : (place : Int) < (many : Int) - 1 := by omega
    unfold rowE envA
    simp [nD, c', e1]
  · have c' : ¬ (place : Int) < (many : Int) - 1 := by omega
    obtain ⟨x, hp', e1, hxm, b1, x1, _⟩ := hPick (hp ++ [.lst [.tup [.str "end"], .tup [.str "go", nD b], .tup [.str "go", .int 0]]]) n (.ref hp.length) [.tup [.str "end"], .tup [.str "go", nD b], .tup [.str "go", .int 0]] (hb.ext (Ext.app [] _ _) (by simp)) (lsOf_lst (by simp)) (by simp) (by simp) (by simp; omega)
    have hr : ∃ r : Row, x = r.d ∧ RowOk tops many place r := by
      simp only [List.mem_cons, List.not_mem_nil, or_false] at hxm
      rcases hxm with rfl | rfl | rfl
      · exact ⟨.fin, rfl, trivial⟩
      · exact ⟨.go b, rfl, hbm⟩
      · exact ⟨.go 0, rfl, by show 0 < many; omega⟩
    obtain ⟨r, rfl, hr⟩ := hr
    refine ⟨r, hp', ?_, hr, b1, (Ext.app _ _ _).trans x1⟩
    unfold rowE envA
    simp only [nD] at e1 ⊢
    simp [c', e1]
theorem anyT_s {Lr place calls : Nat} {a b c d e : Option D} {rs : List Row} (hb : Box hp n) (ht : tops.length ≤ 3) (h1 : 1 ≤ tops.length) (hc : calls ≤ 1) (hm : many ≤ 1000) (hpl : place < many) (hL : hp[Lr]? = some (.lst (rs.map Row.d))) (hrs : rs.length = place) (hLn : Lr ≠ n) :
    ∃ (r : Row) (a' b' c' : Option D) (hp' : Ht), b__law_any_counts_1 (envA n (nD calls) tops many Lr place a b c d e) hp = .nx (envA n (nD calls) tops many Lr place a' b' c' d e) hp' ∧ RowOk tops many place r ∧ hp'[Lr]? = some (.lst ((rs ++ [r]).map Row.d)) ∧ Box hp' n ∧ Ext [n, Lr] hp hp' := by
  have hLl := (List.getElem?_eq_some_iff.mp hL).1
  have hln : ∀ hp, gLen [natsD tops] hp = .ok (nD tops.length) hp := fun hp => by simp [natsD, nD]
  obtain ⟨sa, hp1, e1, ha, b1, x1⟩ := take_e hb tops.length h1 (by omega)
  obtain ⟨sb, hp2, e2, hb2, b2, x2⟩ := take_e b1 many (by omega) (by omega)
  obtain ⟨xs, hp3, e3, l3, ok3, b3, x3⟩ := some1_s (n := n) (many := many) (calls := nD calls) (Lr := Lr) (place := place) (c := c) (d := d) (e := e) b2 ht h1 ha hb2
  have m3 : (hp3 ++ [O.lst xs])[hp3.length]? = some (.lst xs) := by simp
  have b3' : Box (hp3 ++ [O.lst xs]) n := b3.ext (Ext.app [] _ _) (by simp)
  obtain ⟨ys, hp4, e4, l4, l4', ok4, b4, x4⟩ := some2_s (n := n) (many := many) (Lr := Lr) (place := place) (a := sa) (b := sb) (calls := calls) (d := d) (e := e) b3' ht h1 m3 (by have := b3.lt; omega) l3 hc ok3
  have m4 : (hp4 ++ [O.lst ys])[hp4.length]? = some (.lst ys) := by simp
  have b4' : Box (hp4 ++ [O.lst ys]) n := b4.ext (Ext.app [] _ _) (by simp)
  obtain ⟨r, hp5, e5, ok5, b5, x5⟩ := rowE_s (n := n) (many := many) (tops := tops) (Lr := Lr) (place := place) (b := sb) (calls := calls) (a := some (nD sa)) (d := d) (e := e) b4' hb2 m4 (by have := b4.lt; omega) ⟨l4, l4'⟩ ok4
  have xall : Ext [n] hp (hp4 ++ [O.lst ys]) := ((((x1.trans x2).trans x3).trans (Ext.app _ _ _)).trans x4).trans (Ext.app _ _ _)
  have L4 : (hp4 ++ [O.lst ys])[Lr]? = some (.lst (rs.map Row.d)) := xall.some hL (by simp; exact hLn)
  have L5 : hp5[Lr]? = some (.lst (rs.map Row.d)) := x5.some L4 (by simp; exact hLn)
  have L5l := (List.getElem?_eq_some_iff.mp L5).1
  have app := append_s (y := r.d) L5 (by simp; omega)
  refine ⟨r, some (nD sa), some (nD sb), some (.ref hp4.length), hp5.set Lr (.lst (rs.map Row.d ++ [r.d])), ?_, ok5, by rw [List.getElem?_set_self L5l, List.map_append]; rfl, b5.ext (Ext.set (W := [Lr]) _ _ (by simp)) (by simp; exact fun z => hLn z.symm), ?_⟩
  · have s1 : sPar [6, 7] (fCons (fCall (g__law_take) (fCons (fVar 0) (fCons (fCall gLen (fCons (fVar 2) fNil)) fNil))) (fCons (fCall (g__law_take) (fCons (fVar 0) (fCons (fVar 3) fNil))) fNil)) (envA n (nD calls) tops many Lr place a b c d e) hp = .nx (envA n (nD calls) tops many Lr place (some (nD sa)) (some (nD sb)) c d e) hp2 := by
      simp [envA, hln, e1, e2]
    have s2 : sAsg some1 (gN 8) (envA n (nD calls) tops many Lr place (some (nD sa)) (some (nD sb)) c d e) hp2 = .nx (envA n (nD calls) tops many Lr place (some (nD sa)) (some (nD sb)) (some (.ref hp3.length)) d e) (hp3 ++ [O.lst xs]) := by
      rw [sAsg_e, e3]
      rfl
    have s3 : sAsg some2 (gN 8) (envA n (nD calls) tops many Lr place (some (nD sa)) (some (nD sb)) (some (.ref hp3.length)) d e) (hp3 ++ [O.lst xs]) = .nx (envA n (nD calls) tops many Lr place (some (nD sa)) (some (nD sb)) (some (.ref hp4.length)) d e) (hp4 ++ [O.lst ys]) := by
      rw [sAsg_e, e4]
      rfl
    have s4 : sExpr (fBM isL gAppend (fVar 4) (fCons rowE fNil)) (envA n (nD calls) tops many Lr place (some (nD sa)) (some (nD sb)) (some (.ref hp4.length)) d e) (hp4 ++ [O.lst ys]) = .nx (envA n (nD calls) tops many Lr place (some (nD sa)) (some (nD sb)) (some (.ref hp4.length)) d e) (hp5.set Lr (.lst (rs.map Row.d ++ [r.d]))) := by
      have hv : fVar 4 (envA n (nD calls) tops many Lr place (some (nD sa)) (some (nD sb)) (some (.ref hp4.length)) d e) (hp4 ++ [O.lst ys]) = .ok (.ref Lr) (hp4 ++ [O.lst ys]) := rfl
      simp only [sExpr_e, fBM_e, hv, Out.ok_bind, isL_lst L4, if_true, fCons_e, fNil_e, e5, app, Out.ok_so]
    show sSeq _ (sSeq (sAsg some1 (gN 8)) (sSeq (sAsg some2 (gN 8)) (sExpr (fBM isL gAppend (fVar 4) (fCons rowE fNil))))) _ _ = _
    rw [sSeq_e, s1, thn_nx, sSeq_e, s2, thn_nx, sSeq_e, s3, thn_nx, s4]
  · refine Ext.trans ((xall.trans x5).weak (by simp)) (Ext.set _ _ (by simp))
end
end K23
set_option Elab.async false
set_option linter.all false
set_option maxRecDepth 100000
set_option maxHeartbeats 2000000
namespace K23
open PySem PySem.Spec PyProof.Rows L2 DL
section
variable {n : Nat} {hp : Ht}
theorem any_s {calls : Nat} (hb : Box hp n) (hc : calls ≤ 1) : ∃ (tops : List Nat) (rows : List Row) (hp' : Ht), g__law_any_counts [.ref n, nD calls] hp = .ok (cntD tops rows) hp' ∧ WF tops rows ∧ Box hp' n ∧ Ext [n] hp hp' := by
  have hnl := hb.lt
  obtain ⟨k0, hp1, e1, hk0, b1, x1⟩ := take_e hb 3 (by omega) (by omega)
  have add1 : ∀ (t : Nat) hp, gAdd (.int 1) (nD t) hp = .ok (nD (t + 1)) hp := fun t hp => by
    show Out.ok (D.int (1 + (t : Int))) hp = _
    unfold nD
    rw [show (1 + (t : Int)) = ((t + 1 : Nat) : Int) by omega]
  have e1' : g__law_take [.ref n, .int 3] hp = .ok (nD k0) hp1 := e1
  obtain ⟨ys, hp2, e2, l2, p2, b2, x2⟩ := tupLc_box (n := n) (env := [some (.ref n), some (nD calls), none, none, none, none, none, none, none, none, none]) (hp := hp) (hp1 := hp1) (vs := [9]) (g := gN 9) (e := (fBin gAdd (fC (.int 1)) (fCall (g__law_take) (fCons (fVar 0) (fCons (fC (.int 3)) fNil))))) (w := (iRange1 (fCons (fBin gAdd (fC (.int 1)) (fCall (g__law_take) (fCons (fVar 0) (fCons (fC (.int 3)) fNil)))) fNil))) (items := ranD (k0 + 1))
    (fun _ y => ∃ t : Nat, y = nD t ∧ 1 ≤ t ∧ t ≤ 3) (walksB_range (k := k0 + 1) (by simp [e1', add1]; rfl) (by omega)) (by rw [ranD_len]; omega) b1 fun z _ hp5 _ hb5 => by
      refine ⟨[some (.ref n), some (nD calls), none, none, none, none, none, none, none, some z, none], rfl, ?_⟩
      obtain ⟨r, hp6, s1, s2, s3, s4⟩ := take_e hb5 3 (by omega) (by omega)
      have s1' : g__law_take [.ref n, .int 3] hp5 = .ok (nD r) hp6 := s1
      exact ⟨nD (r + 1), hp6, by simp [s1', add1], ⟨r + 1, rfl, by omega, by omega⟩, s3, s4⟩
  obtain ⟨tops, ets, qts⟩ := nats_of (ys := ys) (Q := fun _ t => 1 ≤ t ∧ t ≤ 3) fun i y hy => by
    have hi : i < (ranD (k0 + 1)).length := by rw [← l2]; exact (List.getElem?_eq_some_iff.mp hy).1
    exact p2 i _ y (List.getElem?_eq_getElem hi) hy
  have lt : tops.length = k0 + 1 := by rw [ets, List.length_map, ranD_len] at l2; exact l2
  obtain ⟨m0, hp3, e3, hm0, b3, x3⟩ := take_e b2 11 (by omega) (by omega)
  have e3' : g__law_take [.ref n, .int 11] hp2 = .ok (nD m0) hp3 := e3
  have add2 : ∀ hp, gAdd (.int 2) (nD m0) hp = .ok (nD (m0 + 2)) hp := fun hp => by
    show Out.ok (D.int (2 + (m0 : Int))) hp = _
    unfold nD
    rw [show (2 + (m0 : Int)) = ((m0 + 2 : Nat) : Int) by omega]
  have x03 : Ext [n] hp hp3 := (x1.trans x2).trans x3
  have loop := for_inv (g := gN 5) (body := b__law_any_counts_1) (src := .rng 0 (m0 + 2)) (items := ranD (m0 + 2))
    (I := fun i env hp' => ∃ (rs : List Row) (o a b c d e : Option D), env = [some (.ref n), some (nD calls), some (natsD tops), some (nD (m0 + 2)), some (.ref hp3.length), o, a, b, c, d, e] ∧ rs.length = i ∧ hp'[hp3.length]? = some (.lst (rs.map Row.d)) ∧ (∀ p r, rs[p]? = some r → RowOk tops (m0 + 2) p r) ∧ Box hp' n ∧ Ext [n] hp hp')
    (R := fun _ _ => False) (fun i env hp' _ => item_rng) (fun i d env hp' hd hI => by
      obtain ⟨rs, o, a, b, c, d', e, rfl, h1, h2, h3, h4, h5⟩ := hI
      obtain ⟨rfl, hi⟩ := ranD_at hd
      obtain ⟨r, a', b', c', hp'', q1, q2, q3, q4, q5⟩ := anyT_s (tops := tops) (n := n) (many := m0 + 2) (Lr := hp3.length) (place := i) (calls := calls) (a := a) (b := b) (c := c) (d := d') (e := e) (rs := rs) h4 (by omega) (by omega) hc (by omega) hi h2 h1 (by have := b3.lt; omega)
      have henv : (gN 5 (.int (i : Int)) [some (.ref n), some (nD calls), some (natsD tops), some (nD (m0 + 2)), some (.ref hp3.length), o, a, b, c, d', e] hp').so b__law_any_counts_1 = b__law_any_counts_1 (envA n (nD calls) tops (m0 + 2) hp3.length i a b c d' e) hp' := rfl
      rw [henv, q1]
      refine ⟨rs ++ [r], some (nD i), a', b', c', d', e, rfl, by simp [h1], q3, fun p r' hp' => ?_, q4, h5.thru q5 ?_⟩
      · by_cases cc : p < rs.length
        · rw [List.getElem?_append_left cc] at hp'
          exact h3 p r' hp'
        · have := (List.getElem?_eq_some_iff.mp hp').1
          simp at this
          have ep : p = rs.length := by omega
          subst ep
          rw [List.getElem?_append_right (Nat.le_refl _), Nat.sub_self] at hp'
          simp at hp'
          subst hp'
          rw [h1]
          exact q2
      · intro v hv
        simp at hv
        rcases hv with rfl | rfl
        · exact .inr (by simp)
        · exact .inl x03.le) (m0 + 3) 0 [some (.ref n), some (nD calls), some (natsD tops), some (nD (m0 + 2)), some (.ref hp3.length), none, none, none, none, none, none] (hp3 ++ [.lst []]) (by rw [ranD_len]; omega) (Nat.zero_le _)
    ⟨[], _, _, _, _, _, _, rfl, rfl, by simp, fun p r h => by simp at h, b3.ext (Ext.app [] _ _) (by simp), x03.trans (Ext.app _ _ _)⟩
  have body : b__law_any_counts [some (.ref n), some (nD calls), none, none, none, none, none, none, none, none, none] hp = thnS (forS (gN 5) b__law_any_counts_1 (.rng 0 (m0 + 2)) (m0 + 3) 0 [some (.ref n), some (nD calls), some (natsD tops), some (nD (m0 + 2)), some (.ref hp3.length), none, none, none, none, none, none] (hp3 ++ [.lst []])) (sRet (fTup (fCons (fVar 2) (fCons (fCall gTuple (fCons (fVar 4) fNil)) fNil)))) := by
    unfold b__law_any_counts
    have s1 : sAsg (fTup (fCons (fCall gTuple (fCons (fLc (iRange1 (fCons (fBin gAdd (fC (.int 1)) (fCall (g__law_take) (fCons (fVar 0) (fCons (fC (.int 3)) fNil)))) fNil)) (gN 9) tYesF (fBin gAdd (fC (.int 1)) (fCall (g__law_take) (fCons (fVar 0) (fCons (fC (.int 3)) fNil)))) [9]) fNil)) (fCons (fBin gAdd (fC (.int 2)) (fCall (g__law_take) (fCons (fVar 0) (fCons (fC (.int 11)) fNil)))) fNil))) (gT 2 (gCons' (gN 2) (gCons' (gN 3) gNil'))) [some (.ref n), some (nD calls), none, none, none, none, none, none, none, none, none] hp = .nx [some (.ref n), some (nD calls), some (natsD tops), some (nD (m0 + 2)), none, none, none, none, none, none, none] hp3 := by
      rw [sAsg_e, fTup_e, fCons_e, e2]
      simp [e3', add2, ets, natsD]
    rw [sSeq_e, s1, thn_nx, sSeq_e]
    have s2 : sAsg (fLst fNil) (gN 4) [some (.ref n), some (nD calls), some (natsD tops), some (nD (m0 + 2)), none, none, none, none, none, none, none] hp3 = .nx [some (.ref n), some (nD calls), some (natsD tops), some (nD (m0 + 2)), some (.ref hp3.length), none, none, none, none, none, none] (hp3 ++ [.lst []]) := by
      simp
    rw [s2, thn_nx, sSeq_e, sFor_range (n := m0 + 2) (hp1 := hp3 ++ [.lst []]) (by simp [nD]) (by omega)]
  unfold g__law_any_counts
  rw [runDef_e]
  show ∃ tops rows hp', ans (b__law_any_counts [some (.ref n), some (nD calls), none, none, none, none, none, none, none, none, none] hp) = _ ∧ _
  rw [body]
  obtain ⟨d', hp', e, rows, rfl, h2, h3, h4⟩ := ResN.ok (R := fun d hp' => ∃ rows, d = cntD tops rows ∧ WF tops rows ∧ Box hp' n ∧ Ext [n] hp hp') (ResN.thn (J := fun _ _ => False) (b := (sRet (fTup (fCons (fVar 2) (fCons (fCall gTuple (fCons (fVar 4) fNil)) fNil))))) (ResN.mono loop (fun _ _ h => h) fun _ _ h => h.elim) fun e hp1 hI => by
    obtain ⟨rs, o, a, b, c, d, e, rfl, h1, h2, h3, h4, h5⟩ := hI
    rw [ranD_len] at h1
    have tp := gTuple_r (lsOf_lst h2)
    have run : sRet (fTup (fCons (fVar 2) (fCons (fCall gTuple (fCons (fVar 4) fNil)) fNil))) [some (.ref n), some (nD calls), some (natsD tops), some (nD (m0 + 2)), some (.ref hp3.length), o, a, b, c, d, e] hp1 = .rt (cntD tops rs) hp1 := by
      simp [tp, cntD]
    rw [run]
    refine ⟨rs, rfl, ⟨by omega, by omega, fun t ht => ?_, by omega, by omega, fun p r hr => by rw [h1]; exact h3 p r hr⟩, h4, h5⟩
    obtain ⟨i, hi⟩ := List.getElem?_of_mem ht
    exact qts i t hi)
  exact ⟨tops, rows, hp', e, h2, h3, h4⟩
end
end K23
set_option Elab.async false
set_option linter.all false
set_option maxRecDepth 100000
set_option maxHeartbeats 2000000
namespace K23
open PySem PySem.Spec PyProof.Rows L2 DL
/-! ### the typed counts -/
def farRows : List Row := [.up 0, .test 0 3, .go 0, .up 1, .test 1 6, .go 0, .up 2, .test 2 9, .go 0, .meet "a" [2], .zero 1, .go 11]
def farTops : List Nat := [3, 3, 3]
theorem far_wf : WF farTops farRows := by
  refine ⟨by decide, by decide, by decide, by decide, by decide, fun p r h => ?_⟩
  match p, h with
  | 0, h => cases h; exact ⟨by decide, by decide⟩
  | 1, h => cases h; exact ⟨by decide, by decide, by decide⟩
  | 2, h => cases h; show 0 < 12; decide
  | 3, h => cases h; exact ⟨by decide, by decide⟩
  | 4, h => cases h; exact ⟨by decide, by decide, by decide⟩
  | 5, h => cases h; show 0 < 12; decide
  | 6, h => cases h; exact ⟨by decide, by decide⟩
  | 7, h => cases h; exact ⟨by decide, by decide, by decide⟩
  | 8, h => cases h; show 0 < 12; decide
  | 9, h => cases h; exact ⟨by decide, by decide, by decide⟩
  | 10, h => cases h; exact ⟨by decide, by decide⟩
  | 11, h => cases h; show 11 < 12; decide
  | p + 12, h => simp [farRows] at h
theorem sok_far {p : Nat} {ns : List Nat} (h1 : p < 12) (h2 : ns.length = 3) (h3 : ∀ n ∈ ns, n ≤ 3) : SOk farTops farRows p ns := by
  refine ⟨h1, h2, fun i a b e1 e2 => ?_⟩
  have := h3 a (List.mem_of_getElem? e1)
  have hb : b = 3 := by
    have := List.mem_of_getElem? e2
    simp [farTops] at this
    exact this
  omega
def heardD : D := .tup [.tup [.str "meet", nD 9, natsD [0, 0, 0]], .tup [.str "meet", nD 9, natsD [1, 2, 0]], .tup [.tup [.str "a", natsD [0, 0, 0], .tup [nD 3]], .tup [.str "ever"]], .tup [.tup [.str "a", natsD [0, 0, 0]]]]
theorem far1 : lookD farTops farRows (farRows.length * 64 + 1) (0, [0, 0, 0]) = .tup [.str "meet", nD 9, natsD [0, 0, 0]] := by decide +kernel
theorem far2 : lookD farTops farRows (farRows.length * 64 + 1) (6, [1, 2, 3]) = .tup [.str "meet", nD 9, natsD [1, 2, 0]] := by decide +kernel
theorem far3 : evs farTops farRows [[1, 2, 3], [0, 0, 0]] (0, [0, 0, 0]) = [.tup [.str "a", natsD [0, 0, 0], .tup [nD 3]], .tup [.str "ever"]] := by decide +kernel
theorem far4 : evs farTops farRows [] (0, [0, 0, 0]) = [.tup [.str "a", natsD [0, 0, 0]]] := by decide +kernel
theorem pln_nats (ns : List Nat) (h : ns.length ≤ 1000000) : Pln 1 (natsD ns) := .tup (fun x hx => by
  obtain ⟨n, _, rfl⟩ := List.mem_map.mp hx
  exact .int _) (by simpa using h)
end K23
set_option Elab.async false
set_option linter.all false
set_option maxRecDepth 100000
set_option maxHeartbeats 2000000
namespace K23
open PySem PySem.Spec PyProof.Rows L2 DL
section
variable {tops : List Nat} {rows : List Row} {n : Nat} {hp : Ht}
theorem pln_stop {x : Stop} (h : ∀ a b c d, x = .meet a b c d → d.length ≤ 1000) (h2 : ∀ p d, x = .call p d → d.length ≤ 1000) : Pln 2 x.d := by
  cases x with
  | meet a b c d => exact .tup (fun y hy => by
      simp only [List.mem_cons, List.not_mem_nil, or_false] at hy
      rcases hy with rfl | rfl | rfl
      · exact .str _
      · exact .int _
      · exact pln_nats d (by have := h a b c d rfl; omega)) (by simp)
  | call p d => exact .tup (fun y hy => by
      simp only [List.mem_cons, List.not_mem_nil, or_false] at hy
      rcases hy with rfl | rfl | rfl
      · exact .str _
      · exact .int _
      · exact pln_nats d (by have := h2 p d rfl; omega)) (by simp)
  | fin => exact .tup (fun y hy => by
      simp only [List.mem_cons, List.not_mem_nil, or_false] at hy
      subst hy
      exact .str _) (by simp)
theorem look_len (W : WF tops rows) : ∀ (k : Nat) (s : Stt) (x : Stop), SOk tops rows s.1 s.2 → look tops rows k s = some x → Pln 2 x.d
  | 0, _, _, _, h => by cases h
  | k + 1, s, x, S, h => by
    unfold look at h
    have l3 : s.2.length ≤ 1000 := by have := S.ln; have := W.t3; omega
    cases e : stopAt rows s with
    | some y =>
      rw [e] at h
      cases h
      unfold stopAt at e
      split at e
      · cases e; exact pln_stop (fun a b c d z => by cases z; exact l3) (fun p d z => by cases z)
      · cases e; exact pln_stop (fun a b c d z => by cases z) (fun p d z => by cases z; exact l3)
      · cases e; exact pln_stop (fun a b c d z => by cases z) (fun p d z => by cases z)
      · cases e
    | none =>
      rw [e] at h
      exact look_len W k _ x (next_ok W S e) h
theorem pln_look (W : WF tops rows) {k : Nat} {s : Stt} (S : SOk tops rows s.1 s.2) : Pln 2 (lookD tops rows k s) := by
  unfold lookD
  cases e : look tops rows k s with
  | some x => exact look_len W k s x S e
  | none => exact .tup (fun y hy => by
      simp only [List.mem_cons, List.not_mem_nil, or_false] at hy
      subst hy
      exact .str _) (by simp)
theorem pln_evs (W : WF tops rows) : ∀ (fs : List (List Nat)) (s : Stt), SOk tops rows s.1 s.2 → (∀ f ∈ fs, FeedOk tops f) → (∀ d ∈ evs tops rows fs s, Pln 2 d) ∧ (evs tops rows fs s).length ≤ fs.length + 1
  | [], s, S, _ => by
    unfold evs
    cases e : look tops rows (rows.length * 64 + 1) s with
    | none => exact ⟨fun d hd => by simp at hd; subst hd; exact .tup (fun y hy => by simp at hy; subst hy; exact .str _) (by simp), by simp⟩
    | some x =>
      have hx := look_len W _ s x S e
      cases x with
      | meet a b c d =>
        have hd := (look_ok W _ s a b c d S e).1.ln
        have := W.t3
        refine ⟨fun y hy => ?_, by simp⟩
        simp at hy; subst hy
        exact .tup (fun z hz => by
          simp only [List.mem_cons, List.not_mem_nil, or_false] at hz
          rcases hz with rfl | rfl
          · exact .str _
          · exact pln_nats d (by omega)) (by simp)
      | call p d => exact ⟨fun y hy => by simp at hy; subst hy; exact hx, by simp⟩
      | fin => exact ⟨fun y hy => by simp at hy; subst hy; exact hx, by simp⟩
  | f :: fs, s, S, hf => by
    unfold evs
    cases e : look tops rows (rows.length * 64 + 1) s with
    | none => exact ⟨fun d hd => by simp at hd; subst hd; exact .tup (fun y hy => by simp at hy; subst hy; exact .str _) (by simp), by simp⟩
    | some x =>
      have hx := look_len W _ s x S e
      cases x with
      | meet a b c d =>
        obtain ⟨S2, hr⟩ := look_ok W _ s a b c d S e
        have ok := W.ok c _ hr
        have ih := pln_evs W fs (c + 1, updF f b d) (upd_ok W S2 hr (hf f List.mem_cons_self)) fun g hg => hf g (List.mem_cons_of_mem _ hg)
        have hd := S2.ln
        have := W.t3
        refine ⟨fun y hy => ?_, by simp only [List.length_cons]; omega⟩
        rcases List.mem_cons.mp hy with rfl | hy
        · exact .tup (fun z hz => by
            simp only [List.mem_cons, List.not_mem_nil, or_false] at hz
            rcases hz with rfl | rfl | rfl
            · exact .str _
            · exact pln_nats d (by omega)
            · exact .tup (fun q hq => by
                obtain ⟨t, _, rfl⟩ := List.mem_map.mp hq
                exact .int _) (by rw [List.length_map]; have := ok.2.2; omega)) (by simp)
        · exact ih.1 y hy
      | call p d => exact ⟨fun y hy => by simp at hy; subst hy; exact hx, by simp⟩
      | fin => exact ⟨fun y hy => by simp at hy; subst hy; exact hx, by simp⟩
def envW (far heard : D) (k : Option D) (n : Nat) (turn : D) (cs : D) (a b c d e : Option D) : En := [some (.ref 0), some far, some heard, k, some (.ref n), some turn, some cs, a, b, c, d, e]
theorem law1_s (W : WF tops rows) {far heard turn : D} {k a b c d e : Option D} (hb : Box hp n) : ∃ (b' c' : Option D) (hp' : Ht), b_law_1 (envW far heard k n turn (cntD tops rows) a b c d e) hp = .nx (envW far heard k n turn (cntD tops rows) a b' c' d e) hp' ∧ Box hp' n ∧ Ext [n] hp hp' := by
  have h12 := W.r12
  obtain ⟨p, hp1, e1, hpl, b1, x1⟩ := take_e hb rows.length W.r1 (by omega)
  obtain ⟨zs, hp3, q1, q2, q3, q4, q5⟩ := tupLc_box (n := n) (env := envW far heard k n turn (cntD tops rows) a b c d e) (hp := hp1) (hp1 := hp1) (vs := [11]) (g := gN 11) (e := (fCall (g__law_take) (fCons (fVar 4) (fCons (fBin gAdd (fVar 11) (fC (.int 1))) fNil)))) (w := iSrc (fBin gIxD (fVar 6) (fC (.int 0)))) (items := tops.map nD)
    (fun a y => ∃ t u : Nat, a = nD t ∧ y = nD u ∧ u ≤ t) (walksB_tup (by simp [envW, cntD, natsD])) (by rw [List.length_map]; have := W.t3; omega) b1 fun z hz hp4 _ hb4 => by
      obtain ⟨t, htm, rfl⟩ := List.mem_map.mp hz
      refine ⟨envW far heard k n turn (cntD tops rows) a b c d (some (nD t)), rfl, ?_⟩
      obtain ⟨r, hp5, s1, s2, s3, s4⟩ := take_e hb4 (t + 1) (by omega) (by have := W.top t htm; omega)
      refine ⟨nD r, hp5, ?_, ⟨t, r, rfl, rfl, by omega⟩, s3, s4⟩
      have hh : gAdd (nD t) (.int 1) hp4 = .ok (nD (t + 1)) hp4 := rfl
      simp [envW, hh, s1]
  obtain ⟨nums, ef, qf⟩ := nats_of (ys := zs) (Q := fun i u => ∀ t, tops[i]? = some t → u ≤ t) fun i y hy => by
    have hi : i < tops.length := by
      have := (List.getElem?_eq_some_iff.mp hy).1
      simp at q2
      omega
    obtain ⟨t, u, a, b, c⟩ := q3 i (nD tops[i]) y (by rw [List.getElem?_map, List.getElem?_eq_getElem hi]; rfl) hy
    refine ⟨u, b, fun t' ht' => ?_⟩
    rw [List.getElem?_eq_getElem hi] at ht'
    cases ht'
    simp only [nD, D.int.injEq] at a
    omega
  subst ef
  have S : SOk tops rows p nums := ⟨hpl, by simpa using q2, fun i a b h1 h2 => qf i a h1 b h2⟩
  obtain ⟨o, e2⟩ := next_count_s (s := (p, nums)) W S hp3
  have e3 := law_next_s (s := (p, nums)) W S (hp3 ++ [o])
  obtain ⟨g, e4⟩ := hSame ((pln_look (k := rows.length * 64 + 1) (s := (p, nums)) W S).mono (by decide : 2 ≤ 39)) (hp3 ++ [o])
  refine ⟨some (nD p), some (natsD nums), hp3 ++ [o] ++ g, ?_, (q4.ext (Ext.app [] _ _) (by simp)).ext (Ext.app [] _ _) (by simp), ((x1.trans q5).trans (Ext.app _ _ _)).trans (Ext.app _ _ _)⟩
  have hc : ∀ hp, gIxD (cntD tops rows) (.int 1) hp = .ok (.tup (rows.map Row.d)) hp := fun _ => by simp [cntD]
  have hln : ∀ hp, gLen [.tup (rows.map Row.d)] hp = .ok (nD rows.length) hp := fun hp => by simp [nD]
  have s1 : sPar [8, 9] (fCons (fCall (g__law_take) (fCons (fVar 4) (fCons (fCall gLen (fCons (fBin gIxD (fVar 6) (fC (.int 1))) fNil)) fNil))) (fCons (fCall gTuple (fCons (fLc (iSrc (fBin gIxD (fVar 6) (fC (.int 0)))) (gN 11) tYesF (fCall (g__law_take) (fCons (fVar 4) (fCons (fBin gAdd (fVar 11) (fC (.int 1))) fNil))) [11]) fNil)) fNil)) (envW far heard k n turn (cntD tops rows) a b c d e) hp = .nx (envW far heard k n turn (cntD tops rows) a (some (nD p)) (some (natsD nums)) d e) hp3 := by
    have t1 : fCall (g__law_take) (fCons (fVar 4) (fCons (fCall gLen (fCons (fBin gIxD (fVar 6) (fC (.int 1))) fNil)) fNil)) (envW far heard k n turn (cntD tops rows) a b c d e) hp = .ok (nD p) hp1 := by
      simp [envW, hc, hln, e1]
    rw [sPar2_e, fCons_e, t1]
    simp only [Out.ok_bind]
    rw [fCons_e, q1]
    rfl
  unfold b_law_1
  rw [sSeq_e, s1, thn_nx]
  simp only [envW]
  simp at e2 e3 e4
  simp [e2, e3, e4]
end
end K23
set_option Elab.async false
set_option linter.all false
set_option maxRecDepth 100000
set_option maxHeartbeats 2000000
namespace K23
open PySem PySem.Spec PyProof.Rows L2 DL
section
variable {n : Nat} {hp : Ht}
theorem law2_s {far heard : D} {k t0 c0 a b c d e : Option D} {t : Nat} (hb : Box hp n) (ht : t < 6) : ∃ (c0' a' b' c' d' : Option D) (hp' : Ht),
    b_law_2 [some (.ref 0), some far, some heard, k, some (.ref n), some (nD t), c0, a, b, c, d, e] hp = .nx [some (.ref 0), some far, some heard, k, some (.ref n), some (nD t), c0', a', b', c', d', e] hp' ∧ Box hp' n ∧ Ext [n] hp hp' := by
  obtain ⟨tops, rows, hp1, e1, W, b1, x1⟩ := any_s (n := n) (hp := hp) (calls := t % 2) hb (by omega)
  have hmod : ∀ hp, gMod (nD t) (.int 2) hp = .ok (nD (t % 2)) hp := fun hp => by
    unfold nD
    rw [gMod_i (by omega)]
    simp
  -- the four places
  have loop := for_inv (g := gN 7) (body := b_law_1) (src := .rng 0 4) (items := ranD 4)
    (I := fun i env hp' => ∃ a b c, env = envW far heard k n (nD t) (cntD tops rows) a b c d e ∧ Box hp' n ∧ Ext [n] hp hp') (R := fun _ _ => False) (fun i env hp' _ => item_rng) (fun i dd env hp' hd hI => by
      obtain ⟨a, b, c, rfl, h1, h2⟩ := hI
      obtain ⟨b', c', hp'', q1, q2, q3⟩ := law1_s (far := far) (heard := heard) (turn := nD t) (k := k) (a := some dd) (b := b) (c := c) (d := d) (e := e) W h1
      have henv : (gN 7 dd (envW far heard k n (nD t) (cntD tops rows) a b c d e) hp').so b_law_1 = b_law_1 (envW far heard k n (nD t) (cntD tops rows) (some dd) b c d e) hp' := rfl
      rw [henv, q1]
      exact ⟨_, _, _, rfl, q2, h2.trans q3⟩) 5 0 (envW far heard k n (nD t) (cntD tops rows) a b c d e) hp1 (by rw [ranD_len]) (Nat.zero_le _) ⟨_, _, _, rfl, b1, x1⟩
  cases hst : forS (gN 7) b_law_1 (.rng 0 4) 5 0 (envW far heard k n (nD t) (cntD tops rows) a b c d e) hp1 with
  | nx env2 hp2 =>
    rw [hst] at loop
    obtain ⟨a2, b2', c2, rfl, b2, x2⟩ := (show ∃ a b c, env2 = envW far heard k n (nD t) (cntD tops rows) a b c d e ∧ Box hp2 n ∧ Ext [n] hp hp2 from loop)
    obtain ⟨m, hp3, e3, hm, b3, x3⟩ := take_e b2 7 (by omega) (by omega)
    have e3' : g__law_take [.ref n, .int 7] hp2 = .ok (nD m) hp3 := e3
    obtain ⟨fs, hp4, e4, l4, f4, b4, x4⟩ := feed_s (tops := tops) (hp := hp3) (n := n) (many := m) b3 (fun t ht => by have := W.top t ht; omega) (by have := W.t3; omega) (by omega)
    obtain ⟨hp5, e5, x5⟩ := count_events_s W f4 (by omega) hp4
    obtain ⟨hp6, e6, x6⟩ := law_events_s W f4 (by omega) hp5
    have pe := pln_evs W fs (0, List.replicate tops.length 0) (zero_ok W) f4
    obtain ⟨g, e7⟩ := hSame (d := .tup (evs tops rows fs (0, List.replicate tops.length 0))) (Pln.mono (Pln.tup pe.1 (by omega)) (by decide : 3 ≤ 39)) hp6
    have hc : ∀ hp, gIxD (cntD tops rows) (.int 0) hp = .ok (natsD tops) hp := fun _ => by simp [cntD]
    have s1 : sAsg (fCall (g__law_any_counts) (fCons (fVar 4) (fCons (fBin gMod (fVar 5) (fC (.int 2))) fNil))) (gN 6) [some (.ref 0), some far, some heard, k, some (.ref n), some (nD t), c0, a, b, c, d, e] hp = .nx (envW far heard k n (nD t) (cntD tops rows) a b c d e) hp1 := by
      simp [hmod, e1, envW]
    have s2 : sFor (iRange1 (fCons (fC (.int 4)) fNil)) (gN 7) b_law_1 (envW far heard k n (nD t) (cntD tops rows) a b c d e) hp1 = .nx (envW far heard k n (nD t) (cntD tops rows) a2 b2' c2 d e) hp2 := by
      rw [sFor_range (n := 4) (hp1 := hp1) (by simp) (by omega)]
      exact hst
    have s3 : sAsg (fCall (g__law_feed) (fCons (fVar 4) (fCons (fBin gIxD (fVar 6) (fC (.int 0))) (fCons (fCall (g__law_take) (fCons (fVar 4) (fCons (fC (.int 7)) fNil))) fNil)))) (gN 10) (envW far heard k n (nD t) (cntD tops rows) a2 b2' c2 d e) hp2 = .nx (envW far heard k n (nD t) (cntD tops rows) a2 b2' c2 (some (.tup (fs.map natsD))) e) hp4 := by
      simp [envW, hc, e3', e4]
    by_cases ev : t % 2 = 0
    · refine ⟨some (cntD tops rows), a2, b2', c2, some (.tup (fs.map natsD)), hp6 ++ g, ?_, ((b4.ext x5 (by simp)).ext x6 (by simp)).ext (Ext.app [] _ _) (by simp), ?_⟩
      · unfold b_law_2
        rw [sSeq_e, s1, thn_nx, sSeq_e, s2, thn_nx, sSeq_e, s3, thn_nx]
        have hev : gEq (nD (t % 2)) (.int 0) hp4 = .ok (.bl true) hp4 := by
          unfold nD
          rw [gEq_i, decide_eq_true (by omega)]
        simp [envW, hmod, hev, e5, e6, e7]
      · exact ((((x2.trans x3).trans x4).trans (x5.weak (by simp))).trans (x6.weak (by simp))).trans (Ext.app _ _ _)
    · refine ⟨some (cntD tops rows), a2, b2', c2, some (.tup (fs.map natsD)), hp4, ?_, b4, (x2.trans x3).trans x4⟩
      unfold b_law_2
      rw [sSeq_e, s1, thn_nx, sSeq_e, s2, thn_nx, sSeq_e, s3, thn_nx]
      have hev : gEq (nD (t % 2)) (.int 0) hp4 = .ok (.bl false) hp4 := by
        unfold nD
        rw [gEq_i, decide_eq_false (by omega)]
      simp [envW, hmod, hev]
  | rt _ _ => rw [hst] at loop; exact loop.elim
  | bk _ _ => rw [hst] at loop; exact loop.elim
  | ct _ _ => rw [hst] at loop; exact loop.elim
  | exc _ _ => rw [hst] at loop; exact loop.elim
  | fail => rw [hst] at loop; exact loop.elim
theorem law3_s {far heard : D} {a b c d e f g h : Option D} {k : Nat} {ns : List Int} (hl : lsOf hp 0 = some (ns.map D.int)) (hz : ns.length ≤ 63) (hk : k ≤ 1000) : ∃ (a' b' c' d' e' f' g' h' : Option D) (hp' : Ht),
    b_law_3 [some (.ref 0), some far, some heard, some (nD k), a, b, c, d, e, f, g, h] hp = .nx [some (.ref 0), some far, some heard, some (nD k), a', b', c', d', e', f', g', h'] hp' ∧ Ext [] hp hp' := by
  obtain ⟨o, e1, b1⟩ := hBox hp 0 ns k hl hk (by omega)
  have loop := for_inv (g := gN 5) (body := b_law_2) (src := .rng 0 6) (items := ranD 6)
    (I := fun i env hp' => ∃ b c d e f g h, env = [some (.ref 0), some far, some heard, some (nD k), some (.ref hp.length), b, c, d, e, f, g, h] ∧ Box hp' hp.length ∧ Ext [] hp hp') (R := fun _ _ => False) (fun i env hp' _ => item_rng) (fun i dd env hp' hd hI => by
      obtain ⟨b, c, d, e, f, g, h, rfl, h1, h2⟩ := hI
      obtain ⟨rfl, hi⟩ := ranD_at hd
      obtain ⟨c', d', e', f', g', hp'', q1, q2, q3⟩ := law2_s (far := far) (heard := heard) (k := some (nD k)) (t0 := none) (c0 := c) (a := d) (b := e) (c := f) (d := g) (e := h) (t := i) h1 hi
      have henv : (gN 5 (.int (i : Int)) [some (.ref 0), some far, some heard, some (nD k), some (.ref hp.length), b, c, d, e, f, g, h] hp').so b_law_2 = b_law_2 [some (.ref 0), some far, some heard, some (nD k), some (.ref hp.length), some (nD i), c, d, e, f, g, h] hp' := rfl
      rw [henv, q1]
      exact ⟨_, _, _, _, _, _, _, rfl, q2, h2.thru q3 (by simp)⟩) 7 0 [some (.ref 0), some far, some heard, some (nD k), some (.ref hp.length), b, c, d, e, f, g, h] (hp ++ [o]) (by rw [ranD_len]) (Nat.zero_le _) ⟨_, _, _, _, _, _, _, rfl, b1, Ext.app _ _ _⟩
  have s1 : sAsg (fCall (g__law_box) (fCons (fVar 0) (fCons (fVar 3) fNil))) (gN 4) [some (.ref 0), some far, some heard, some (nD k), a, b, c, d, e, f, g, h] hp = .nx [some (.ref 0), some far, some heard, some (nD k), some (.ref hp.length), b, c, d, e, f, g, h] (hp ++ [o]) := by
    have e1' : g__law_box [.ref 0, nD k] hp = .ok (.ref hp.length) (hp ++ [o]) := e1
    simp [e1']
  unfold b_law_3
  rw [sSeq_e, s1, thn_nx, sFor_range (n := 6) (hp1 := hp ++ [o]) (by simp) (by omega)]
  cases hst : forS (gN 5) b_law_2 (.rng 0 6) (6 + 1) 0 [some (.ref 0), some far, some heard, some (nD k), some (.ref hp.length), b, c, d, e, f, g, h] (hp ++ [o]) with
  | nx env2 hp2 =>
    rw [hst] at loop
    obtain ⟨b, c, d, e, f, g, h, rfl, _, h2⟩ := (show ∃ b c d e f g h, env2 = [some (.ref 0), some far, some heard, some (nD k), some (.ref hp.length), b, c, d, e, f, g, h] ∧ Box hp2 hp.length ∧ Ext [] hp hp2 from loop)
    exact ⟨_, _, _, _, _, _, _, _, hp2, rfl, h2⟩
  | rt _ _ => rw [hst] at loop; exact loop.elim
  | bk _ _ => rw [hst] at loop; exact loop.elim
  | ct _ _ => rw [hst] at loop; exact loop.elim
  | exc _ _ => rw [hst] at loop; exact loop.elim
  | fail => rw [hst] at loop; exact loop.elim
end
theorem plain (ns : List Int) (o : O) (hl : ns.length ≤ 63) (hb : ∀ z ∈ ns, Builtin.Int.intBits z ≤ 1048576) (ho : o = .lst (ns.map D.int) ∨ o = .fro (ns.map D.int)) : ∃ hp', g_law [.ref 0] [o] = .ok (.bl true) hp' := by
  have h0 : lsOf [o] 0 = some (ns.map D.int) := by rcases ho with rfl | rfl <;> rfl
  obtain ⟨o1, e1⟩ := next_count_s (s := (0, [0, 0, 0])) far_wf (sok_far (by decide) rfl (by decide)) [o]
  obtain ⟨o2, e2⟩ := next_count_s (s := (6, [1, 2, 3])) far_wf (sok_far (by decide) rfl (by decide)) ([o] ++ [o1])
  rw [far1] at e1
  rw [far2] at e2
  obtain ⟨hp3, e3, x3⟩ := count_events_s (fs := [[1, 2, 3], [0, 0, 0]]) far_wf (fun f hf => by
    simp only [List.mem_cons, List.not_mem_nil, or_false] at hf
    have key : ∀ g : List Nat, g.length = 3 → (∀ x ∈ g, x ≤ 3) → FeedOk farTops g := fun g h1 h2 => ⟨h1, (sok_far (p := 0) (by decide) h1 h2).le⟩
    rcases hf with rfl | rfl
    · exact key _ rfl (by decide)
    · exact key _ rfl (by decide)) (by decide) ([o] ++ [o1] ++ [o2])
  obtain ⟨hp4, e4, x4⟩ := count_events_s (fs := []) far_wf (fun f hf => by cases hf) (by decide) hp3
  have z3 : List.replicate farTops.length 0 = [0, 0, 0] := rfl
  rw [z3] at e3 e4
  rw [far3] at e3
  rw [far4] at e4
  obtain ⟨g5, e5⟩ := hSame (d := heardD) (by
    have c2 : ∀ (x : Str) (ns : List Nat), ns.length ≤ 10 → Pln 2 (.tup [.str x, natsD ns]) := fun x ns h => .tup (fun y hy => by
      simp only [List.mem_cons, List.not_mem_nil, or_false] at hy
      rcases hy with rfl | rfl
      · exact .str _
      · exact pln_nats ns (by omega)) (by simp)
    have c3 : ∀ (x : Str) (i : Nat) (ns : List Nat), ns.length ≤ 10 → Pln 2 (.tup [.str x, nD i, natsD ns]) := fun x i ns h => .tup (fun y hy => by
      simp only [List.mem_cons, List.not_mem_nil, or_false] at hy
      rcases hy with rfl | rfl | rfl
      · exact .str _
      · exact .int _
      · exact pln_nats ns (by omega)) (by simp)
    refine Pln.mono (n := 4) ?_ (by decide)
    refine .tup (fun y hy => ?_) (by simp)
    simp only [List.mem_cons, List.not_mem_nil, or_false] at hy
    rcases hy with rfl | rfl | rfl | rfl
    · exact (c3 _ _ _ (by decide)).up
    · exact (c3 _ _ _ (by decide)).up
    · refine .tup (fun y hy => ?_) (by simp)
      simp only [List.mem_cons, List.not_mem_nil, or_false] at hy
      rcases hy with rfl | rfl
      · exact .tup (fun y hy => by
          simp only [List.mem_cons, List.not_mem_nil, or_false] at hy
          rcases hy with rfl | rfl | rfl
          · exact .str _
          · exact pln_nats _ (by decide)
          · exact pln_nats [3] (by decide)) (by simp)
      · exact .tup (fun y hy => by simp at hy; subst hy; exact .str _) (by simp)
    · refine .tup (fun y hy => ?_) (by simp)
      simp only [List.mem_cons, List.not_mem_nil, or_false] at hy
      subst hy
      exact c2 _ _ (by decide)) hp4
  have x4' : Ext [] [o] (hp4 ++ g5) := (((Ext.app [] [o] [o1]).trans (Ext.app _ _ _)).trans x3 |>.trans x4).trans (Ext.app _ _ _)
  obtain ⟨N, hN⟩ : ∃ N : Nat, N = max 5 (min ns.length 9) := ⟨_, rfl⟩
  have loop := for_inv (g := gN 3) (body := b_law_3) (src := .rng 0 N) (items := ranD N)
    (I := fun i env hp' => ∃ z a b c d e f g h, env = [some (.ref 0), some (cntD farTops farRows), some heardD, z, a, b, c, d, e, f, g, h] ∧ Ext [] [o] hp') (R := fun _ _ => False) (fun i env hp' _ => item_rng) (fun i dd env hp' hd hI => by
      obtain ⟨z, a, b, c, d, e, f, g, h, rfl, h2⟩ := hI
      obtain ⟨rfl, hi⟩ := ranD_at hd
      have hl0 : lsOf hp' 0 = some (ns.map D.int) := by
        have : seqOf [o] (.ref 0) = some (ns.map D.int) := h0
        exact seq_ext this h2 (by simp)
      obtain ⟨a', b', c', d', e', f', g', h', hp'', q1, q2⟩ := law3_s (far := cntD farTops farRows) (heard := heardD) (a := a) (b := b) (c := c) (d := d) (e := e) (f := f) (g := g) (h := h) (k := i) hl0 hl (by omega)
      have henv : (gN 3 (.int (i : Int)) [some (.ref 0), some (cntD farTops farRows), some heardD, z, a, b, c, d, e, f, g, h] hp').so b_law_3 = b_law_3 [some (.ref 0), some (cntD farTops farRows), some heardD, some (nD i), a, b, c, d, e, f, g, h] hp' := rfl
      rw [henv, q1]
      exact ⟨_, _, _, _, _, _, _, _, _, rfl, h2.trans q2⟩) (N + 1) 0 [some (.ref 0), some (cntD farTops farRows), some heardD, none, none, none, none, none, none, none, none, none] (hp4 ++ g5) (by rw [ranD_len]; omega) (Nat.zero_le _) ⟨_, _, _, _, _, _, _, _, _, rfl, x4'⟩
  have s12 : 12 ≤ sizeLine := by decide
  have s1 : sAsg (fTup (fCons (fTup (fCons (fC (.int 3)) (fCons (fC (.int 3)) (fCons (fC (.int 3)) fNil)))) (fCons (fTup (fCons (fTup (fCons (fC (.str "up")) (fCons (fC (.int 0)) fNil))) (fCons (fTup (fCons (fC (.str "test")) (fCons (fC (.int 0)) (fCons (fC (.int 3)) fNil)))) (fCons (fTup (fCons (fC (.str "go")) (fCons (fC (.int 0)) fNil))) (fCons (fTup (fCons (fC (.str "up")) (fCons (fC (.int 1)) fNil))) (fCons (fTup (fCons (fC (.str "test")) (fCons (fC (.int 1)) (fCons (fC (.int 6)) fNil)))) (fCons (fTup (fCons (fC (.str "go")) (fCons (fC (.int 0)) fNil))) (fCons (fTup (fCons (fC (.str "up")) (fCons (fC (.int 2)) fNil))) (fCons (fTup (fCons (fC (.str "test")) (fCons (fC (.int 2)) (fCons (fC (.int 9)) fNil)))) (fCons (fTup (fCons (fC (.str "go")) (fCons (fC (.int 0)) fNil))) (fCons (fTup (fCons (fC (.str "meet")) (fCons (fC (.str "a")) (fCons (fTup (fCons (fC (.int 2)) fNil)) fNil)))) (fCons (fTup (fCons (fC (.str "zero")) (fCons (fC (.int 1)) fNil))) (fCons (fTup (fCons (fC (.str "go")) (fCons (fC (.int 11)) fNil))) fNil))))))))))))) fNil))) (gN 1) [some (.ref 0), none, none, none, none, none, none, none, none, none, none, none] [o] = .nx [some (.ref 0), some (cntD farTops farRows), none, none, none, none, none, none, none, none, none, none] [o] := by
    rw [sAsg_e]
    have : (fTup (fCons (fTup (fCons (fC (.int 3)) (fCons (fC (.int 3)) (fCons (fC (.int 3)) fNil)))) (fCons (fTup (fCons (fTup (fCons (fC (.str "up")) (fCons (fC (.int 0)) fNil))) (fCons (fTup (fCons (fC (.str "test")) (fCons (fC (.int 0)) (fCons (fC (.int 3)) fNil)))) (fCons (fTup (fCons (fC (.str "go")) (fCons (fC (.int 0)) fNil))) (fCons (fTup (fCons (fC (.str "up")) (fCons (fC (.int 1)) fNil))) (fCons (fTup (fCons (fC (.str "test")) (fCons (fC (.int 1)) (fCons (fC (.int 6)) fNil)))) (fCons (fTup (fCons (fC (.str "go")) (fCons (fC (.int 0)) fNil))) (fCons (fTup (fCons (fC (.str "up")) (fCons (fC (.int 2)) fNil))) (fCons (fTup (fCons (fC (.str "test")) (fCons (fC (.int 2)) (fCons (fC (.int 9)) fNil)))) (fCons (fTup (fCons (fC (.str "go")) (fCons (fC (.int 0)) fNil))) (fCons (fTup (fCons (fC (.str "meet")) (fCons (fC (.str "a")) (fCons (fTup (fCons (fC (.int 2)) fNil)) fNil)))) (fCons (fTup (fCons (fC (.str "zero")) (fCons (fC (.int 1)) fNil))) (fCons (fTup (fCons (fC (.str "go")) (fCons (fC (.int 11)) fNil))) fNil))))))))))))) fNil))) [some (.ref 0), none, none, none, none, none, none, none, none, none, none, none] [o] = .ok (cntD farTops farRows) [o] := by
      simp [s12, cntD, farTops, farRows, natsD, nD, Row.d]
    rw [this]
    rfl
  have s2 : sAsg (fTup (fCons (fCall (g_next_count) (fCons (fVar 1) (fCons (fC (.int 0)) (fCons (fTup (fCons (fC (.int 0)) (fCons (fC (.int 0)) (fCons (fC (.int 0)) fNil)))) fNil)))) (fCons (fCallK (kwG 1 2 [0, 1]) (g_next_count) (fCons (fVar 1) fNil) (fCons (fC (.int 6)) (fCons (fTup (fCons (fC (.int 1)) (fCons (fC (.int 2)) (fCons (fC (.int 3)) fNil)))) fNil))) (fCons (fCall (g_count_events) (fCons (fVar 1) (fCons (fTup (fCons (fTup (fCons (fC (.int 1)) (fCons (fC (.int 2)) (fCons (fC (.int 3)) fNil)))) (fCons (fTup (fCons (fC (.int 0)) (fCons (fC (.int 0)) (fCons (fC (.int 0)) fNil)))) fNil))) fNil))) (fCons (fCallK (kwG 1 1 [0]) (g_count_events) (fCons (fVar 1) fNil) (fCons (fTup fNil) fNil)) fNil))))) (gN 2) [some (.ref 0), some (cntD farTops farRows), none, none, none, none, none, none, none, none, none, none] [o] = .nx [some (.ref 0), some (cntD farTops farRows), some heardD, none, none, none, none, none, none, none, none, none] hp4 := by
    rw [sAsg_e]
    have : (fTup (fCons (fCall (g_next_count) (fCons (fVar 1) (fCons (fC (.int 0)) (fCons (fTup (fCons (fC (.int 0)) (fCons (fC (.int 0)) (fCons (fC (.int 0)) fNil)))) fNil)))) (fCons (fCallK (kwG 1 2 [0, 1]) (g_next_count) (fCons (fVar 1) fNil) (fCons (fC (.int 6)) (fCons (fTup (fCons (fC (.int 1)) (fCons (fC (.int 2)) (fCons (fC (.int 3)) fNil)))) fNil))) (fCons (fCall (g_count_events) (fCons (fVar 1) (fCons (fTup (fCons (fTup (fCons (fC (.int 1)) (fCons (fC (.int 2)) (fCons (fC (.int 3)) fNil)))) (fCons (fTup (fCons (fC (.int 0)) (fCons (fC (.int 0)) (fCons (fC (.int 0)) fNil)))) fNil))) fNil))) (fCons (fCallK (kwG 1 1 [0]) (g_count_events) (fCons (fVar 1) fNil) (fCons (fTup fNil) fNil)) fNil))))) [some (.ref 0), some (cntD farTops farRows), none, none, none, none, none, none, none, none, none, none] [o] = .ok heardD hp4 := by
      simp only [natsD, nD, List.map_cons, List.map_nil] at e1 e2 e3 e4
      simp at e1 e2 e3 e4
      simp [kwG, pick, e1, e2, e3, e4, heardD, natsD, nD]
    rw [this]
    rfl
  have s3 : (fTup (fCons (fTup (fCons (fC (.str "meet")) (fCons (fC (.int 9)) (fCons (fTup (fCons (fC (.int 0)) (fCons (fC (.int 0)) (fCons (fC (.int 0)) fNil)))) fNil)))) (fCons (fTup (fCons (fC (.str "meet")) (fCons (fC (.int 9)) (fCons (fTup (fCons (fC (.int 1)) (fCons (fC (.int 2)) (fCons (fC (.int 0)) fNil)))) fNil)))) (fCons (fTup (fCons (fTup (fCons (fC (.str "a")) (fCons (fTup (fCons (fC (.int 0)) (fCons (fC (.int 0)) (fCons (fC (.int 0)) fNil)))) (fCons (fTup (fCons (fC (.int 3)) fNil)) fNil)))) (fCons (fTup (fCons (fC (.str "ever")) fNil)) fNil))) (fCons (fTup (fCons (fTup (fCons (fC (.str "a")) (fCons (fTup (fCons (fC (.int 0)) (fCons (fC (.int 0)) (fCons (fC (.int 0)) fNil)))) fNil))) fNil)) fNil))))) [some (.ref 0), some (cntD farTops farRows), some heardD, none, none, none, none, none, none, none, none, none] hp4 = .ok heardD hp4 := by
    simp [heardD, natsD, nD]
  have hlen : gLen [.ref 0] (hp4 ++ g5) = .ok (.int (ns.length : Int)) (hp4 ++ g5) := by
    have : seqOf [o] (.ref 0) = some (ns.map D.int) := h0
    have q := len_seq (seq_ext this x4' (by simp))
    rw [List.length_map] at q
    exact q
  have s4 : sFor (iRange1 (fCons (fCall gMax2 (fCons (fC (.int 5)) (fCons (fCall gMin2 (fCons (fCall gLen (fCons (fVar 0) fNil)) (fCons (fC (.int 9)) fNil))) fNil))) fNil)) (gN 3) b_law_3 [some (.ref 0), some (cntD farTops farRows), some heardD, none, none, none, none, none, none, none, none, none] (hp4 ++ g5) = forS (gN 3) b_law_3 (.rng 0 N) (N + 1) 0 [some (.ref 0), some (cntD farTops farRows), some heardD, none, none, none, none, none, none, none, none, none] (hp4 ++ g5) := by
    refine sFor_range (n := N) (hp1 := hp4 ++ g5) ?_ (by omega)
    simp [hlen]
    subst hN
    split <;> split <;> omega
  unfold g_law
  rw [runDef_e]
  show ∃ hp', ans (b_law [some (.ref 0), none, none, none, none, none, none, none, none, none, none, none] [o]) = _
  unfold b_law
  rw [sSeq_e, s1, thn_nx, sSeq_e, s2, thn_nx, sSeq_e]
  have s5 : (sIf (tNotF (tTru (fCall (g__law_same) (fCons (fVar 2) (fCons (fTup (fCons (fTup (fCons (fC (.str "meet")) (fCons (fC (.int 9)) (fCons (fTup (fCons (fC (.int 0)) (fCons (fC (.int 0)) (fCons (fC (.int 0)) fNil)))) fNil)))) (fCons (fTup (fCons (fC (.str "meet")) (fCons (fC (.int 9)) (fCons (fTup (fCons (fC (.int 1)) (fCons (fC (.int 2)) (fCons (fC (.int 0)) fNil)))) fNil)))) (fCons (fTup (fCons (fTup (fCons (fC (.str "a")) (fCons (fTup (fCons (fC (.int 0)) (fCons (fC (.int 0)) (fCons (fC (.int 0)) fNil)))) (fCons (fTup (fCons (fC (.int 3)) fNil)) fNil)))) (fCons (fTup (fCons (fC (.str "ever")) fNil)) fNil))) (fCons (fTup (fCons (fTup (fCons (fC (.str "a")) (fCons (fTup (fCons (fC (.int 0)) (fCons (fC (.int 0)) (fCons (fC (.int 0)) fNil)))) fNil))) fNil)) fNil))))) fNil))))) (sRet (fC (.bl false))) (fun env hp => .nx env hp)) [some (.ref 0), some (cntD farTops farRows), some heardD, none, none, none, none, none, none, none, none, none] hp4 = .nx [some (.ref 0), some (cntD farTops farRows), some heardD, none, none, none, none, none, none, none, none, none] (hp4 ++ g5) := by
    simp only [sIf_e, tNotF_e, tTru_e, fCall_e, fCons_e, fVar_2, Out.ok_bind, s3, fNil_e]
    simp [e5]
  rw [s5, thn_nx, sSeq_e, s4]
  obtain ⟨d', hp', e, h1⟩ := ResN.ok (R := fun d hp' => d = .bl true) (ResN.thn (J := fun _ _ => False) (b := (sRet (fC (.bl true)))) (ResN.mono loop (fun _ _ h => h) fun _ _ h => h.elim) fun e hp1 hI => by
    show ResN _ _ (.rt (.bl true) hp1)
    rfl)
  exact ⟨hp', by rw [e, h1]⟩
end K23
set_option Elab.async false
set_option linter.all false
set_option maxRecDepth 100000
open PySem PySem.W PyProof.Rows

theorem K23.walk {l : PySem.W.OpenLaw} {q : Program} {loose : List Str} {XP : (Str → Option Value) → Heap → Prop} {YP : World → Heap → Prop} {d : DefRec} {K : Params → PySem.W.Frag} (hn : l.most = some 63) (hdf : d.params.defaults = [])
    (hY : ∀ (w : World) (h : Heap), YP w h → (K w.params).In h)
    (F : ∀ (w : World) (mg : Str → Option Value) (fa : Addr) (h : Heap), (K w.params).In h → h.Ns mainGlobals mg → mg d.name = some (.ref fa) →
      ∃ fd : FuncData, (∀ (s : Shared) (u : Value), BindsTo s fd ⟨[u], []⟩ [("script", u)]) ∧ ∀ base : Heap, (K w.params).In base → base.Ns mainGlobals mg → L2.FnOk l.prog w (K w.params) mg base L2.CX0 41 fa fd ["script"] (DL.spD (K w.params) w 1 K23.g_law)) :
    PySem.W.WalkO q loose XP YP l.row.toRowW d [] (fun f vs => PySem.call f vs) :=
  L2.walk_ofB (n := 63) (k := 41) (x := "script") (CX := fun _ => L2.CX0) (sp := fun w => DL.spD (K w.params) w 1 K23.g_law) hn (by decide) hdf ⟨rfl, by decide, by decide⟩ hY F (fun w H a ns hl hb _ hS => DL.spD_start hS fun o ho => K23.plain ns o hl hb ho) fun _ _ _ _ _ z => z
set_option maxRecDepth 100000 in
set_option maxHeartbeats 0 in
theorem PySem.Challenge.cw_anyiron_k23_whole_counts_run_holds : PySem.Challenge.rw_anyiron_k23_whole_counts_run.Holds := by
  w_on; o_law; k_head; (case hw => w_witness2)
  k_fill
  refine K23.walk (l := PySem.Challenge.rw_anyiron_k23_whole_counts_run) rfl rfl (fun w h Y => PySem.W.kIn_of Y) ?F
  case F =>
    intro w mg fa h KX G hmg
    refine' K23.all_mk KX G hmg ?a0 ?l0 ?c0 ?k0 ?a1 ?l1 ?c1 ?k1 ?a2 ?l2 ?c2 ?k2 ?a3 ?l3 ?c3 ?k3 ?a4 ?l4 ?c4 ?k4 ?a5 ?l5 ?c5 ?k5 ?a6 ?l6 ?c6 ?k6 ?a7 ?l7 ?c7 ?k7 ?a8 ?l8 ?c8 ?k8 ?a9 ?l9 ?c9 ?k9 ?a10 ?l10 ?c10 ?k10 ?a11 ?l11 ?c11 ?k11 ?a12 ?l12 ?c12 ?k12 ?a13 ?l13 ?c13 ?k13 ?a14 ?l14 ?c14 ?k14 ?z_abs ?z_bool ?z_dict ?z_enumerate ?z_int ?z_isinstance ?z_len ?z_list ?z_max ?z_min ?z_range ?z_sorted ?z_str ?z_tuple ?z_zip ?e_MEET ?e_CALL ?e_END ?e_EVER
    (case a0 => k_is); (case l0 => k_is); (case c0 => k_is); (case k0 => k_is); (case a1 => k_is); (case l1 => k_is); (case c1 => k_is); (case k1 => k_is); (case a2 => k_is); (case l2 => k_is); (case c2 => k_is); (case k2 => k_is); (case a3 => k_is); (case l3 => k_is); (case c3 => k_is); (case k3 => k_is); (case a4 => k_is); (case l4 => k_is); (case c4 => k_is); (case k4 => k_is); (case a5 => k_is); (case l5 => k_is); (case c5 => k_is); (case k5 => k_is); (case a6 => k_is); (case l6 => k_is); (case c6 => k_is); (case k6 => k_is); (case a7 => k_is); (case l7 => k_is); (case c7 => k_is); (case k7 => k_is); (case a8 => k_is); (case l8 => k_is); (case c8 => k_is); (case k8 => k_is); (case a9 => k_is); (case l9 => k_is); (case c9 => k_is); (case k9 => k_is); (case a10 => k_is); (case l10 => k_is); (case c10 => k_is); (case k10 => k_is); (case a11 => k_is); (case l11 => k_is); (case c11 => k_is); (case k11 => k_is); (case a12 => k_is); (case l12 => k_is); (case c12 => k_is); (case k12 => k_is); (case a13 => k_is); (case l13 => k_is); (case c13 => k_is); (case k13 => k_is); (case a14 => k_is); (case l14 => k_is); (case c14 => k_is); (case k14 => k_is); (case z_abs => k_is); (case z_bool => k_is); (case z_dict => k_is); (case z_enumerate => k_is); (case z_int => k_is); (case z_isinstance => k_is); (case z_len => k_is); (case z_list => k_is); (case z_max => k_is); (case z_min => k_is); (case z_range => k_is); (case z_sorted => k_is); (case z_str => k_is); (case z_tuple => k_is); (case z_zip => k_is); (case e_MEET => k_is); (case e_CALL => k_is); (case e_END => k_is); (case e_EVER => k_is)
