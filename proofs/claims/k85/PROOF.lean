import PyProof.Rows.All
import Wide.All
import OpenK.AllK
import Wide.FinOn
import HandS.ForMost
import HandS.Zip
import HandS.Deep
import HandS.TupAny
import HandS.TupLe
import HandS.TupMul
import HandS.DictTup
import HandS.Style
import HandS.Walk
import KE.SortData
import KE.KeyNested
import KE.KDictKeyed
import PyProof.DictRoadsH
import HandS.Conv
import HandS.Dict
import KE.KDictCopyH
import KE.KDictSum
import KE.KDictItemsList
import HandS.TupLen
import HandS.IsInst
import KE.DataEq
import KE.DataCmp
import KE.DataMinMax
import KE.DataIsa
import KE.KTupSum
import KE.DataFind
import KE.KRevSl
import HandS.ListItems
import HandS.Star
import KE.GoesEnum
import KE.GoesMore
import KE.GoesZip
import HandS.Strs
import KE.KDictPairs
import HandS.Codes
import HandS.Defaults
import HandS.Head0
import HandS.Head1
import HandS.Head2
import HandS.HeadEnd
import HandS.HeadHook1
import HandS.HeadHook2
import PySem.Challenge.RW_chosenbymany_k85_whole_first_places_as_l
set_option Elab.async false
set_option linter.all false
set_option maxRecDepth 100000
set_option maxHeartbeats 0
/-! DL, part A: plain data, what stands for it in the abstract heap, labels, the state of a frame. -/
namespace DL
open PySem PySem.Spec PyProof.Rows L2

/-- a tuple known to its object, which has no dict -/
def GT (H : Hp) (a : Addr) (vs : List V) : Prop := ∃ o, o.dict = none ∧ H a = some (.frz o (.tup vs))
/-- a dict whose keys are tuples: keys, the keys' addresses, values -/
def TabE (h : Heap) (a : Addr) (kvs : List (NestedKey × Addr × V)) : Prop :=
  (a == sysModules) = false ∧ ∃ o es ep, h.get? a = some o ∧ o.ExactDict ∧ o.data = .dict es ep ∧ Paired (fun (p : NestedKey × Addr × V) (en : DictEntry) => (∀ w, en.hash = p.1.hash w) ∧ p.1.depth ≤ 8 ∧ en.key = .ref p.2.1 ∧ RelV p.2.2 en.val) kvs es.toList ∧ (kvs.map (·.1)).Nodup
def tabO (a : Addr) (kvs : List (NestedKey × Addr × V)) : HO := .ext fun h => TabE h a kvs
/-- plain data; `src` is the law's drawing source, `pr` a pair that an iterator hands out, `dT` a dict with tuples as keys -/
inductive D where
  | non
  | bl (b : Bool)
  | int (i : Int)
  | str (s : Str)
  | tup (xs : List D)
  | lst (xs : List D)
  | dK (kvs : List (Key × D))
  | dT (kvs : List (NestedKey × D))
  | pr (x y : D)
  | src
  deriving Inhabited

abbrev Lab := Addr → Option Nat

mutual
def ofNK : NestedKey → D
  | .none => .non
  | .num i => .int i
  | .text x => .str x
  | .tup ks => .tup (ofNKs ks)
def ofNKs : List NestedKey → List D
  | [] => []
  | k :: ks => ofNK k :: ofNKs ks
end
mutual
/-- v stands for d in H; lists and dicts are at addresses of which L holds; ds: the source's address -/
inductive Rep (ds : Addr) (L : Addr → Prop) (H : Hp) : D → V → Prop
  | non : Rep ds L H .non .non
  | bl (b : Bool) : Rep ds L H (.bl b) (.bl b)
  | int (i : Int) : Rep ds L H (.int i) (.int i)
  | str (x : Str) : Rep ds L H (.str x) (.str x)
  | tup {a : Addr} {vs : List V} {xs : List D} : GT H a vs → vs.length ≤ sizeLine → RepL ds L H xs vs → Rep ds L H (.tup xs) (.ref a)
  | lst {a : Addr} {vs : List V} {xs : List D} : L a → H a = some (.lst vs) → vs.length ≤ sizeLine → RepL ds L H xs vs → Rep ds L H (.lst xs) (.ref a)
  | dK {a : Addr} {vs : List (Key × V)} {xs : List (Key × D)} : L a → Rd H a (.dK vs) → vs.length ≤ sizeLine → RepK ds L H xs vs → Rep ds L H (.dK xs) (.ref a)
  | dT {a : Addr} {vs : List (NestedKey × Addr × V)} {xs : List (NestedKey × D)} : L a → Rd H a (tabO a vs) → vs.length ≤ sizeLine → RepT ds L H xs vs → Rep ds L H (.dT xs) (.ref a)
  | pr {a : Addr} {v w : V} {x y : D} : H a = some (.tup [v, w]) → Rep ds L H x v → Rep ds L H y w → Rep ds L H (.pr x y) (.ref a)
  | src : Rep ds L H .src (.ref ds)
inductive RepL (ds : Addr) (L : Addr → Prop) (H : Hp) : List D → List V → Prop
  | nil : RepL ds L H [] []
  | cons {d : D} {v : V} {xs : List D} {vs : List V} : Rep ds L H d v → RepL ds L H xs vs → RepL ds L H (d :: xs) (v :: vs)
inductive RepK (ds : Addr) (L : Addr → Prop) (H : Hp) : List (Key × D) → List (Key × V) → Prop
  | nil : RepK ds L H [] []
  | cons {k : Key} {d : D} {v : V} {xs : List (Key × D)} {vs : List (Key × V)} : Rep ds L H d v → RepK ds L H xs vs → RepK ds L H ((k, d) :: xs) ((k, v) :: vs)
inductive RepT (ds : Addr) (L : Addr → Prop) (H : Hp) : List (NestedKey × D) → List (NestedKey × Addr × V) → Prop
  | nil : RepT ds L H [] []
  | cons {k : NestedKey} {b : Addr} {d : D} {v : V} {xs : List (NestedKey × D)} {vs : List (NestedKey × Addr × V)} : Rep ds L H (ofNK k) (.ref b) → Rep ds L H d v → RepT ds L H xs vs → RepT ds L H ((k, d) :: xs) ((k, b, v) :: vs)
end

/-- what is a dict -/
def Shp : HO → Prop
  | .dK _ => True
  | .ext _ => True
  | _ => False
/-- what Rep leans on, from (L, H) to (L', H') -/
structure Kp (L L' : Addr → Prop) (H H' : Hp) : Prop where
  lab : ∀ {a u}, Rd H a u → Shp u → L a → L' a ∧ Rd H' a u
  lst : ∀ {a vs}, H a = some (.lst vs) → L a → L' a ∧ H' a = some (.lst vs)
  tup : ∀ a vs, H a = some (.tup vs) → H' a = some (.tup vs)
  gt : ∀ a o vs, H a = some (.frz o (.tup vs)) → H' a = some (.frz o (.tup vs))
theorem Kp.GT {L L' : Addr → Prop} {H H' : Hp} (k : Kp L L' H H') {a : Addr} {vs : List V} (h : GT H a vs) : GT H' a vs := let ⟨o, h1, h2⟩ := h; ⟨o, h1, k.gt _ _ _ h2⟩

section
variable {ds : Addr} {L L' : Addr → Prop} {H H' : Hp}
mutual
theorem NkRep.kp (k : Kp L L' H H') : ∀ (q : NestedKey) (v : V), Rep ds L H (ofNK q) v → Rep ds L' H' (ofNK q) v
  | .none, _, h => by rw [ofNK] at h ⊢; cases h; exact .non
  | .num _, _, h => by rw [ofNK] at h ⊢; cases h; exact .int _
  | .text _, _, h => by rw [ofNK] at h ⊢; cases h; exact .str _
  | .tup ks, _, h => by
    rw [ofNK] at h ⊢
    cases h with
    | tup h1 h2 h3 => exact .tup (k.GT h1) h2 (NksRep.kp k ks _ h3)
theorem NksRep.kp (k : Kp L L' H H') : ∀ (qs : List NestedKey) (vs : List V), RepL ds L H (ofNKs qs) vs → RepL ds L' H' (ofNKs qs) vs
  | [], _, h => by rw [ofNKs] at h ⊢; cases h; exact .nil
  | q :: qs, _, h => by
    rw [ofNKs] at h ⊢
    cases h with
    | cons h1 h2 => exact .cons (NkRep.kp k q _ h1) (NksRep.kp k qs _ h2)
end
mutual
theorem Rep.kp (k : Kp L L' H H') : ∀ (d : D) (v : V), Rep ds L H d v → Rep ds L' H' d v
  | .non, _, h => by cases h; exact .non
  | .bl _, _, h => by cases h; exact .bl _
  | .int _, _, h => by cases h; exact .int _
  | .str _, _, h => by cases h; exact .str _
  | .tup xs, _, h => by
    cases h with
    | tup h1 h2 h3 => exact .tup (k.GT h1) h2 (RepL.kp k xs _ h3)
  | .lst xs, _, h => by
    cases h with
    | lst h0 h1 h2 h3 => exact .lst (k.lst h1 h0).1 (k.lst h1 h0).2 h2 (RepL.kp k xs _ h3)
  | .dK xs, _, h => by
    cases h with
    | dK h0 h1 h2 h3 => exact .dK (k.lab h1 trivial h0).1 (k.lab h1 trivial h0).2 h2 (RepK.kp k xs _ h3)
  | .dT xs, _, h => by
    cases h with
    | dT h0 h1 h2 h3 => exact .dT (k.lab h1 trivial h0).1 (k.lab h1 trivial h0).2 h2 (RepT.kp k xs _ h3)
  | .pr x y, _, h => by
    cases h with
    | pr h1 h2 h3 => exact .pr (k.tup _ _ h1) (Rep.kp k x _ h2) (Rep.kp k y _ h3)
  | .src, _, h => by cases h; exact .src
theorem RepL.kp (k : Kp L L' H H') : ∀ (xs : List D) (vs : List V), RepL ds L H xs vs → RepL ds L' H' xs vs
  | [], _, h => by cases h; exact .nil
  | d :: xs, _, h => by
    cases h with
    | cons h1 h2 => exact .cons (Rep.kp k d _ h1) (RepL.kp k xs _ h2)
theorem RepK.kp (k : Kp L L' H H') : ∀ (xs : List (Key × D)) (vs : List (Key × V)), RepK ds L H xs vs → RepK ds L' H' xs vs
  | [], _, h => by cases h; exact .nil
  | (_, d) :: xs, _, h => by
    cases h with
    | cons h1 h2 => exact .cons (Rep.kp k d _ h1) (RepK.kp k xs _ h2)
theorem RepT.kp (k : Kp L L' H H') : ∀ (xs : List (NestedKey × D)) (vs : List (NestedKey × Addr × V)), RepT ds L H xs vs → RepT ds L' H' xs vs
  | [], _, h => by cases h; exact .nil
  | (q, d) :: xs, _, h => by
    cases h with
    | cons h0 h1 h2 => exact .cons (NkRep.kp k q _ h0) (Rep.kp k d _ h1) (RepT.kp k xs _ h2)
end
end

section
variable {ds : Addr} {L L' : Addr → Prop} {H H' : Hp}
theorem RepL.length : ∀ {xs : List D} {vs : List V}, RepL ds L H xs vs → xs.length = vs.length
  | _, _, .nil => rfl
  | _, _, .cons _ t => congrArg (· + 1) (RepL.length t)
theorem RepL.get : ∀ {xs : List D} {vs : List V} {i : Nat} {d : D}, RepL ds L H xs vs → xs[i]? = some d → ∃ v, vs[i]? = some v ∧ Rep ds L H d v
  | _, _, _, _, .nil, e => by simp at e
  | _, _, 0, _, .cons r _, e => by simp at e; subst e; exact ⟨_, rfl, r⟩
  | _, _, i + 1, d, .cons _ t, e => by
    obtain ⟨v, h1, h2⟩ := RepL.get (i := i) (d := d) t (by simpa using e)
    exact ⟨v, by simpa using h1, h2⟩
theorem RepL.getV : ∀ {xs : List D} {vs : List V} {i : Nat} {v : V}, RepL ds L H xs vs → vs[i]? = some v → ∃ d, xs[i]? = some d ∧ Rep ds L H d v
  | _, _, _, _, .nil, e => by simp at e
  | _, _, 0, _, .cons r _, e => by simp at e; subst e; exact ⟨_, rfl, r⟩
  | _, _, i + 1, v, .cons _ t, e => by
    obtain ⟨d, h1, h2⟩ := RepL.getV (i := i) (v := v) t (by simpa using e)
    exact ⟨d, by simpa using h1, h2⟩
theorem RepL.append : ∀ {xs ys : List D} {vs ws : List V}, RepL ds L H xs vs → RepL ds L H ys ws → RepL ds L H (xs ++ ys) (vs ++ ws)
  | _, _, _, _, .nil, s => s
  | _, _, _, _, .cons r t, s => .cons r (RepL.append t s)
theorem RepL.take : ∀ {xs : List D} {vs : List V} (n : Nat), RepL ds L H xs vs → RepL ds L H (xs.take n) (vs.take n)
  | _, _, 0, _ => .nil
  | _, _, _ + 1, .nil => .nil
  | _, _, n + 1, .cons r t => .cons r (RepL.take n t)
theorem RepL.drop : ∀ {xs : List D} {vs : List V} (n : Nat), RepL ds L H xs vs → RepL ds L H (xs.drop n) (vs.drop n)
  | _, _, 0, r => r
  | _, _, _ + 1, .nil => .nil
  | _, _, n + 1, .cons _ t => RepL.drop n t
theorem RepL.set : ∀ {xs : List D} {vs : List V} {d : D} {v : V} (i : Nat), Rep ds L H d v → RepL ds L H xs vs → RepL ds L H (xs.set i d) (vs.set i v)
  | _, _, _, _, _, _, .nil => .nil
  | _, _, _, _, 0, r, .cons _ t => .cons r t
  | _, _, _, _, i + 1, r, .cons q t => .cons q (RepL.set i r t)
theorem RepL.reverse {xs : List D} {vs : List V} (h : RepL ds L H xs vs) : RepL ds L H xs.reverse vs.reverse := by
  induction xs generalizing vs with
  | nil => cases h; exact .nil
  | cons x xs ih =>
    cases h with
    | cons r t => rw [List.reverse_cons, List.reverse_cons]; exact (ih t).append (.cons r .nil)
theorem RepL.eraseIdx : ∀ {xs : List D} {vs : List V} (i : Nat), RepL ds L H xs vs → RepL ds L H (xs.eraseIdx i) (vs.eraseIdx i)
  | _, _, _, .nil => .nil
  | _, _, 0, .cons _ t => t
  | _, _, i + 1, .cons q t => .cons q (RepL.eraseIdx i t)
theorem RepL.dropLast {xs : List D} {vs : List V} (h : RepL ds L H xs vs) : RepL ds L H xs.dropLast vs.dropLast := by
  rw [List.dropLast_eq_take, List.dropLast_eq_take, h.length]; exact h.take _
theorem RepL.of_append : ∀ {xs ys : List D} {ws : List V}, RepL ds L H (xs ++ ys) ws → ∃ us vs, ws = us ++ vs ∧ RepL ds L H xs us ∧ RepL ds L H ys vs
  | [], _, ws, h => ⟨[], ws, rfl, .nil, h⟩
  | x :: xs, ys, _, h => by
    cases h with
    | cons r t =>
      obtain ⟨us, vs, e, h1, h2⟩ := RepL.of_append (xs := xs) t
      exact ⟨_ :: us, vs, by rw [e]; rfl, .cons r h1, h2⟩
theorem RepL.flatRep {xs : List D} {vs : List V} (h : RepL ds L H xs vs) : ∀ k : Nat, RepL ds L H (List.replicate k xs).flatten (List.replicate k vs).flatten
  | 0 => .nil
  | k + 1 => by
    rw [List.replicate_succ, List.replicate_succ, List.flatten_cons, List.flatten_cons]
    exact h.append (RepL.flatRep h k)
/-- ints -/
theorem RepL.ints : ∀ {ns : List Int} {vs : List V}, RepL ds L H (ns.map D.int) vs → vs = ns.map V.int
  | [], _, h => by cases h; rfl
  | n :: ns, _, h => by
    cases h with
    | cons r t =>
      cases r
      rw [RepL.ints (ns := ns) t]
      rfl
theorem RepL.bls : ∀ {ns : List Bool} {vs : List V}, RepL ds L H (ns.map D.bl) vs → vs = ns.map V.bl
  | [], _, h => by cases h; rfl
  | n :: ns, _, h => by
    cases h with
    | cons r t =>
      cases r
      rw [RepL.bls (ns := ns) t]
      rfl
theorem RepL.of_ints : ∀ (ns : List Int), RepL ds L H (ns.map D.int) (ns.map V.int)
  | [] => .nil
  | n :: ns => .cons (.int n) (RepL.of_ints ns)

/-! dicts -/
theorem RepK.length : ∀ {xs : List (Key × D)} {vs : List (Key × V)}, RepK ds L H xs vs → xs.length = vs.length
  | _, _, .nil => rfl
  | _, _, .cons _ t => congrArg (· + 1) (RepK.length t)
theorem RepT.length : ∀ {xs : List (NestedKey × D)} {vs : List (NestedKey × Addr × V)}, RepT ds L H xs vs → xs.length = vs.length
  | _, _, .nil => rfl
  | _, _, .cons _ _ t => congrArg (· + 1) (RepT.length t)
end

/-! ### dicts as data -/
section
variable {κ : Type} [DecidableEq κ]
def dGet (kvs : List (κ × D)) (k : κ) : Option D := (kvs.find? fun kv => decide (kv.1 = k)).map (·.2)
def dPut (kvs : List (κ × D)) (k : κ) (v : D) : List (κ × D) :=
  if (kvs.any fun kv => decide (kv.1 = k)) = true then kvs.map (fun kv => if kv.1 = k then (kv.1, v) else kv) else kvs ++ [(k, v)]
end
def keyD : Key → D
  | .inl i => .int i
  | .inr x => .str x
def toKey : D → Option Key
  | .int i => some (.inl i)
  | .str x => some (.inr x)
  | _ => none
theorem toKey_keyD (k : Key) : toKey (keyD k) = some k := by cases k <;> rfl
mutual
/-- data that may be a key, or part of one: no text in it -/
def toNK : D → Option NestedKey
  | .non => some .none
  | .int i => some (.num i)
  | .tup xs => (toNKs xs).map .tup
  | _ => none
def toNKs : List D → Option (List NestedKey)
  | [] => some []
  | x :: xs => (toNK x).bind fun k => (toNKs xs).map fun ks => k :: ks
end
/-- a tuple that may be a key -/
def keyT : D → Option NestedKey
  | .tup xs => (toNKs xs).bind fun ks => if NestedKey.depthAll ks ≤ 7 then some (.tup ks) else none
  | _ => none
mutual
theorem ofNK_toNK : ∀ (d : D) (k : NestedKey), toNK d = some k → ofNK k = d ∧ ∀ w w', k.hash w = k.hash w'
  | .non, _, h => by simp [toNK] at h; subst h; exact ⟨rfl, fun _ _ => rfl⟩
  | .int i, _, h => by simp [toNK] at h; subst h; exact ⟨rfl, fun _ _ => rfl⟩
  | .tup xs, _, h => by
    rw [toNK] at h
    obtain ⟨ks, e1, e2⟩ := Option.map_eq_some_iff.mp h
    subst e2
    obtain ⟨e3, e4⟩ := ofNKs_toNKs xs ks e1
    exact ⟨by rw [ofNK, e3], fun w w' => by rw [NestedKey.hash, NestedKey.hash, e4 w w']⟩
  | .bl _, _, h => by simp [toNK] at h
  | .str _, _, h => by simp [toNK] at h
  | .lst _, _, h => by simp [toNK] at h
  | .dK _, _, h => by simp [toNK] at h
  | .dT _, _, h => by simp [toNK] at h
  | .pr _ _, _, h => by simp [toNK] at h
  | .src, _, h => by simp [toNK] at h
theorem ofNKs_toNKs : ∀ (xs : List D) (ks : List NestedKey), toNKs xs = some ks → ofNKs ks = xs ∧ ∀ w w', NestedKey.hashes w ks = NestedKey.hashes w' ks
  | [], _, h => by simp [toNKs] at h; subst h; exact ⟨rfl, fun _ _ => rfl⟩
  | x :: xs, _, h => by
    rw [toNKs] at h
    obtain ⟨k, e1, h⟩ := Option.bind_eq_some_iff.mp h
    obtain ⟨ks, e2, e3⟩ := Option.map_eq_some_iff.mp h
    subst e3
    obtain ⟨a1, a2⟩ := ofNK_toNK x k e1
    obtain ⟨b1, b2⟩ := ofNKs_toNKs xs ks e2
    exact ⟨by rw [ofNKs, a1, b1], fun w w' => by rw [NestedKey.hashes, NestedKey.hashes, a2 w w', b2 w w']⟩
end
theorem keyT_of {d : D} {k : NestedKey} (h : keyT d = some k) : toNK d = some k ∧ ofNK k = d ∧ (∀ w w', k.hash w = k.hash w') ∧ k.depth ≤ 8 ∧ ∃ ks, k = .tup ks := by
  cases d <;> first | (simp [keyT] at h; done) | skip
  rename_i xs
  rw [keyT] at h
  obtain ⟨ks, e1, h⟩ := Option.bind_eq_some_iff.mp h
  split at h
  · rename_i q
    cases h
    have e : toNK (.tup xs) = some (.tup ks) := by rw [toNK, e1]; rfl
    obtain ⟨a1, a2⟩ := ofNK_toNK _ _ e
    exact ⟨e, a1, a2, by rw [NestedKey.depth]; omega, _, rfl⟩
  · cases h
section
variable {ds : Addr} {L L' : Addr → Prop} {H H' : Hp}
theorem Rep.key {d : D} {v : V} {k : Key} (h : Rep ds L H d v) (e : toKey d = some k) : v = kV k := by
  cases h <;> simp [toKey] at e <;> subst e <;> rfl
theorem RepL.ofKeys : ∀ (ks : List Key), RepL ds L H (ks.map keyD) (ks.map kV)
  | [] => .nil
  | k :: ks => .cons (by cases k <;> constructor) (RepL.ofKeys ks)
theorem RepK.get : ∀ {xs : List (Key × D)} {vs : List (Key × V)} (k : Key), RepK ds L H xs vs → (dGet xs k = none ∧ valV vs k = none) ∨ ∃ d v, dGet xs k = some d ∧ valV vs k = some v ∧ Rep ds L H d v
  | _, _, k, .nil => .inl ⟨rfl, rfl⟩
  | _, _, k, @RepK.cons _ _ _ k' d v xs vs r t => by
    by_cases e : k' = k
    · exact .inr ⟨d, v, by simp [dGet, e], by simp [valV, e], r⟩
    · have h := RepK.get k t
      have e1 : dGet ((k', d) :: xs) k = dGet xs k := by simp [dGet, e]
      have e2 : valV ((k', v) :: vs) k = valV vs k := by simp [valV, e]
      rw [e1, e2]; exact h
/-- a dict's entry, by its key -/
def tAt (kvs : List (NestedKey × Addr × V)) (k : NestedKey) : Option (Addr × V) := (kvs.find? fun e => decide (e.1 = k)).map (·.2)
/-- an entry is put: the first key stays -/
def tPut (kvs : List (NestedKey × Addr × V)) (k : NestedKey) (b : Addr) (v : V) : List (NestedKey × Addr × V) :=
  if (kvs.any fun e => decide (e.1 = k)) = true then kvs.map (fun e => if e.1 = k then (e.1, e.2.1, v) else e) else kvs ++ [(k, b, v)]
theorem RepT.get : ∀ {xs : List (NestedKey × D)} {vs : List (NestedKey × Addr × V)} (k : NestedKey), RepT ds L H xs vs → (dGet xs k = none ∧ tAt vs k = none) ∨ ∃ d b v, dGet xs k = some d ∧ tAt vs k = some (b, v) ∧ Rep ds L H d v
  | _, _, k, .nil => .inl ⟨rfl, rfl⟩
  | _, _, k, @RepT.cons _ _ _ k' b d v xs vs q r t => by
    by_cases e : k' = k
    · exact .inr ⟨d, b, v, by simp [dGet, e], by simp [tAt, e], r⟩
    · have h := RepT.get k t
      have e1 : dGet ((k', d) :: xs) k = dGet xs k := by simp [dGet, e]
      have e2 : tAt ((k', b, v) :: vs) k = tAt vs k := by simp [tAt, e]
      rw [e1, e2]; exact h
theorem RepK.append : ∀ {xs ys : List (Key × D)} {vs ws : List (Key × V)}, RepK ds L H xs vs → RepK ds L H ys ws → RepK ds L H (xs ++ ys) (vs ++ ws)
  | _, _, _, _, .nil, s => s
  | _, _, _, _, .cons r t, s => .cons r (RepK.append t s)
theorem RepT.append : ∀ {xs ys : List (NestedKey × D)} {vs ws : List (NestedKey × Addr × V)}, RepT ds L H xs vs → RepT ds L H ys ws → RepT ds L H (xs ++ ys) (vs ++ ws)
  | _, _, _, _, .nil, s => s
  | _, _, _, _, .cons q r t, s => .cons q r (RepT.append t s)
theorem RepK.any : ∀ {xs : List (Key × D)} {vs : List (Key × V)} (k : Key), RepK ds L H xs vs → (xs.any fun kv => decide (kv.1 = k)) = (vs.any fun kv => decide (kv.1 = k))
  | _, _, k, .nil => rfl
  | _, _, k, .cons r t => by rw [List.any_cons, List.any_cons, RepK.any k t]
theorem RepT.any : ∀ {xs : List (NestedKey × D)} {vs : List (NestedKey × Addr × V)} (k : NestedKey), RepT ds L H xs vs → (xs.any fun kv => decide (kv.1 = k)) = (vs.any fun kv => decide (kv.1 = k))
  | _, _, k, .nil => rfl
  | _, _, k, .cons _ r t => by rw [List.any_cons, List.any_cons, RepT.any k t]
theorem RepK.repl : ∀ {xs : List (Key × D)} {vs : List (Key × V)} {d : D} {v : V} (k : Key), Rep ds L H d v → RepK ds L H xs vs →
    RepK ds L H (xs.map fun kv => if kv.1 = k then (kv.1, d) else kv) (vs.map fun kv => if kv.1 = k then (kv.1, v) else kv)
  | _, _, _, _, _, _, .nil => .nil
  | _, _, _, _, k, q, @RepK.cons _ _ _ k' d v xs vs r t => by
    rw [List.map_cons, List.map_cons]
    by_cases e : k' = k
    · simp only [e, if_true]; exact .cons q (RepK.repl k q t)
    · simp only [e, if_false]; exact .cons r (RepK.repl k q t)
theorem RepT.repl : ∀ {xs : List (NestedKey × D)} {vs : List (NestedKey × Addr × V)} {d : D} {v : V} (k : NestedKey), Rep ds L H d v → RepT ds L H xs vs →
    RepT ds L H (xs.map fun kv => if kv.1 = k then (kv.1, d) else kv) (vs.map fun kv => if kv.1 = k then (kv.1, kv.2.1, v) else kv)
  | _, _, _, _, _, _, .nil => .nil
  | _, _, _, _, k, q, @RepT.cons _ _ _ k' b d v xs vs z r t => by
    rw [List.map_cons, List.map_cons]
    by_cases e : k' = k
    · simp only [e, if_true]
      rw [e] at z
      exact .cons z q (RepT.repl k q t)
    · simp only [e, if_false]; exact .cons z r (RepT.repl k q t)
theorem RepK.put {xs : List (Key × D)} {vs : List (Key × V)} {d : D} {v : V} (k : Key) (r : Rep ds L H d v) (h : RepK ds L H xs vs) : RepK ds L H (dPut xs k d) (putK vs k v) := by
  unfold dPut putK
  rw [h.any k]
  split
  · exact h.repl k r
  · exact h.append (.cons r .nil)
theorem RepT.put {xs : List (NestedKey × D)} {vs : List (NestedKey × Addr × V)} {d : D} {b : Addr} {v : V} (k : NestedKey) (z : Rep ds L H (ofNK k) (.ref b)) (r : Rep ds L H d v) (h : RepT ds L H xs vs) : RepT ds L H (dPut xs k d) (tPut vs k b v) := by
  unfold dPut tPut
  rw [h.any k]
  split
  · exact h.repl k r
  · exact h.append (.cons z r .nil)
end
end DL
/-! DL, part B: labels, the steps of a state. -/
namespace DL
open PySem PySem.Spec PyProof.Rows L2

structure Sx where
  ds : Addr
  dc : Addr
def kCells : Key := .inr "cells"
def kLeft : Key := .inr "left"
def kMixed : Key := .inr "mixed"
def kTurn : Key := .inr "turn"
/-- the drawing source stands -/
def SrcAt (S : Sx) (O : Lab) (H : Hp) : Prop :=
  O S.ds = some 0 ∧ O S.dc = some 0 ∧ S.ds ≠ S.dc ∧ ∃ (cells : List Int) (left mixed turn : Int),
    H S.ds = some (.dK [(kCells, .ref S.dc), (kLeft, .int left), (kMixed, .int mixed), (kTurn, .int turn)]) ∧ H S.dc = some (.lst (cells.map V.int)) ∧ 0 ≤ mixed ∧ mixed < 2147483648

abbrev LV (O : Lab) : Addr → Prop := fun a => O a = none
abbrev LR (O : Lab) : Addr → Prop := fun a => O a ≠ some 0

/-- behind an expression -/
structure Ext (S : Sx) (O : Lab) (H : Hp) (O' : Lab) (H' : Hp) : Prop where
  old : ∀ {a o}, H a = some o → O a ≠ some 0 → H' a = some o
  lab : ∀ {a o}, H a = some o → O' a = O a
  dom : ∀ {a o}, H a = some o → ∃ o', H' a = some o'
  tup : ∀ {a vs}, H a = some (.tup vs) → H' a = some (.tup vs)
  gt : ∀ {a o vs}, H a = some (.frz o (.tup vs)) → H' a = some (.frz o (.tup vs))
  src : SrcAt S O H → SrcAt S O' H'
/-- behind a statement -/
structure Step (S : Sx) (O : Lab) (H : Hp) (O' : Lab) (H' : Hp) : Prop where
  old : ∀ {a o}, H a = some o → (O a = none ∨ O a = some 1) → H' a = some o
  lab : ∀ {a o}, H a = some o → (O a = none ∨ O a = some 0 ∨ O a = some 1) → O' a = O a
  dom : ∀ {a o}, H a = some o → ∃ o', H' a = some o'
  tup : ∀ {a vs}, H a = some (.tup vs) → H' a = some (.tup vs)
  gt : ∀ {a o vs}, H a = some (.frz o (.tup vs)) → H' a = some (.frz o (.tup vs))
  src : SrcAt S O H → SrcAt S O' H'

section
variable {S : Sx} {O O1 O2 O' : Lab} {H H1 H2 H' : Hp}
theorem Ext.refl : Ext S O H O H := ⟨fun e _ => e, fun _ => rfl, fun e => ⟨_, e⟩, fun e => e, fun e => e, fun e => e⟩
theorem Ext.trans (x : Ext S O H O1 H1) (y : Ext S O1 H1 O2 H2) : Ext S O H O2 H2 where
  old := fun e n => y.old (x.old e n) (by rw [x.lab e]; exact n)
  lab := fun e => by obtain ⟨o, e1⟩ := x.dom e; rw [y.lab e1, x.lab e]
  dom := fun e => by obtain ⟨o, e1⟩ := x.dom e; exact y.dom e1
  tup := fun e => y.tup (x.tup e)
  gt := fun e => y.gt (x.gt e)
  src := fun e => y.src (x.src e)
theorem Step.refl : Step S O H O H := ⟨fun e _ => e, fun _ _ => rfl, fun e => ⟨_, e⟩, fun e => e, fun e => e, fun e => e⟩
theorem Step.trans (x : Step S O H O1 H1) (y : Step S O1 H1 O2 H2) : Step S O H O2 H2 where
  old := fun e n => y.old (x.old e n) (by rw [x.lab e (by rcases n with n | n; exact .inl n; exact .inr (.inr n))]; exact n)
  lab := fun e n => by obtain ⟨o, e1⟩ := x.dom e; rw [y.lab e1 (by rw [x.lab e n]; exact n), x.lab e n]
  dom := fun e => by obtain ⟨o, e1⟩ := x.dom e; exact y.dom e1
  tup := fun e => y.tup (x.tup e)
  gt := fun e => y.gt (x.gt e)
  src := fun e => y.src (x.src e)
theorem Ext.step (x : Ext S O H O' H') : Step S O H O' H' :=
  ⟨fun e n => x.old e (by rcases n with n | n <;> (rw [n]; simp)), fun e _ => x.lab e, x.dom, x.tup, x.gt, x.src⟩
theorem rd_some {a : Addr} {u : HO} (r : Rd H a u) : ∃ o, H a = some o := by
  rcases r with r | ⟨o, r⟩ <;> exact ⟨_, r⟩
theorem Ext.rd (x : Ext S O H O' H') {a : Addr} {u : HO} (r : Rd H a u) (n : O a ≠ some 0) : Rd H' a u := by
  rcases r with r | ⟨o, r⟩
  · exact .inl (x.old r n)
  · exact .inr ⟨o, x.old r n⟩
theorem Ext.labR (x : Ext S O H O' H') {a : Addr} {u : HO} (r : Rd H a u) : O' a = O a := by
  obtain ⟨o, e⟩ := rd_some r
  exact x.lab e
theorem Ext.kpV (x : Ext S O H O' H') : Kp (LV O) (LV O') H H' :=
  ⟨fun r _ l => ⟨by show O' _ = none; rw [x.labR r]; exact l, x.rd r (by rw [show O _ = none from l]; simp)⟩, fun r l => ⟨by show O' _ = none; rw [x.lab r]; exact l, x.old r (by rw [show O _ = none from l]; simp)⟩, fun _ _ e => x.tup e, fun _ _ _ e => x.gt e⟩
theorem Ext.kpR (x : Ext S O H O' H') : Kp (LR O) (LR O') H H' :=
  ⟨fun r _ l => ⟨by show O' _ ≠ _; rw [x.labR r]; exact l, x.rd r l⟩, fun r l => ⟨by show O' _ ≠ _; rw [x.lab r]; exact l, x.old r l⟩, fun _ _ e => x.tup e, fun _ _ _ e => x.gt e⟩
theorem Step.kpV (x : Step S O H O' H') : Kp (LV O) (LV O') H H' :=
  ⟨fun r _ l => by
    obtain ⟨o, e⟩ := rd_some r
    have l' : O _ = none := l
    refine ⟨by show O' _ = none; rw [x.lab e (.inl l'), l'], ?_⟩
    rcases r with r | ⟨o, r⟩
    · exact .inl (x.old r (.inl l'))
    · exact .inr ⟨o, x.old r (.inl l')⟩, fun r l => ⟨by show O' _ = none; rw [x.lab r (.inl l)]; exact l, x.old r (.inl l)⟩, fun _ _ e => x.tup e, fun _ _ _ e => x.gt e⟩
theorem kpVR : Kp (LV O) (LR O) H H := ⟨fun r _ l => ⟨by show O _ ≠ _; rw [show O _ = none from l]; simp, r⟩, fun r l => ⟨by show O _ ≠ _; rw [show O _ = none from l]; simp, r⟩, fun _ _ e => e, fun _ _ _ e => e⟩
end

/-! ### owned things -/
/-- a list or dict labelled l, of frozen items -/
def Own1 (S : Sx) (O : Lab) (H : Hp) (l : Nat) (d : D) (v : V) : Prop :=
  match d with
  | .lst xs => ∃ p vs, v = .ref p ∧ O p = some l ∧ H p = some (.lst vs) ∧ vs.length ≤ sizeLine ∧ RepL S.ds (LV O) H xs vs
  | .dK xs => ∃ p vs, v = .ref p ∧ O p = some l ∧ H p = some (.dK vs) ∧ vs.length ≤ sizeLine ∧ RepK S.ds (LV O) H xs vs
  | .dT xs => ∃ p vs, v = .ref p ∧ O p = some l ∧ H p = some (tabO p vs) ∧ vs.length ≤ sizeLine ∧ RepT S.ds (LV O) H xs vs
  | d => Rep S.ds (LV O) H d v
inductive Own1L (S : Sx) (O : Lab) (H : Hp) (l : Nat) : List D → List Addr → Prop
  | nil : Own1L S O H l [] []
  | cons {xs : List D} {q : Addr} {vs : List V} {ds : List D} {qs : List Addr} : O q = some l → H q = some (.lst vs) → vs.length ≤ sizeLine → RepL S.ds (LV O) H xs vs → Own1L S O H l ds qs → Own1L S O H l (.lst xs :: ds) (q :: qs)
/-- a list labelled l of lists labelled l, of frozen items -/
def Own2 (S : Sx) (O : Lab) (H : Hp) (l : Nat) (d : D) (v : V) : Prop :=
  match d with
  | .lst xs => ∃ p qs, v = .ref p ∧ O p = some l ∧ H p = some (.lst (qs.map V.ref)) ∧ qs.length ≤ sizeLine ∧ (p :: qs).Nodup ∧ Own1L S O H l xs qs
  | d => Rep S.ds (LV O) H d v
/-- a container whatever its label, of frozen items -/
def Top (S : Sx) (O : Lab) (H : Hp) (d : D) (v : V) : Prop :=
  match d with
  | .lst xs => ∃ p vs, v = .ref p ∧ O p ≠ some 0 ∧ H p = some (.lst vs) ∧ vs.length ≤ sizeLine ∧ RepL S.ds (LV O) H xs vs
  | .dK xs => ∃ p vs, v = .ref p ∧ O p ≠ some 0 ∧ Rd H p (.dK vs) ∧ vs.length ≤ sizeLine ∧ RepK S.ds (LV O) H xs vs
  | .dT xs => ∃ p vs, v = .ref p ∧ O p ≠ some 0 ∧ Rd H p (tabO p vs) ∧ vs.length ≤ sizeLine ∧ RepT S.ds (LV O) H xs vs
  | d => Rep S.ds (LV O) H d v
inductive TopL (S : Sx) (O : Lab) (H : Hp) : List D → List V → Prop
  | nil : TopL S O H [] []
  | cons {d : D} {v : V} {xs : List D} {vs : List V} : Top S O H d v → TopL S O H xs vs → TopL S O H (d :: xs) (v :: vs)
/-- a list, whatever its label, of such containers -/
def Top2 (S : Sx) (O : Lab) (H : Hp) (d : D) (v : V) : Prop :=
  match d with
  | .lst xs => ∃ p vs, v = .ref p ∧ O p ≠ some 0 ∧ H p = some (.lst vs) ∧ vs.length ≤ sizeLine ∧ TopL S O H xs vs
  | d => Rep S.ds (LV O) H d v
/-- modes: 0 frozen, 1 container read, 2 new container, 3 new list of new lists, 5 a list of containers read, else: read -/
def RepM (m : Nat) (S : Sx) (O : Lab) (H : Hp) (d : D) (v : V) : Prop :=
  match m with
  | 0 => Rep S.ds (LV O) H d v
  | 1 => Top S O H d v
  | 2 => Own1 S O H 2 d v
  | 3 => Own2 S O H 2 d v
  | 5 => Top2 S O H d v
  | _ => Rep S.ds (LR O) H d v

section
variable {S : Sx} {O O1 O2 O' : Lab} {H H1 H2 H' : Hp} {d : D} {v : V} {l : Nat}
theorem Rep.top (h : Rep S.ds (LV O) H d v) : Top S O H d v := by
  cases h with
  | non => exact .non
  | bl b => exact .bl b
  | int i => exact .int i
  | str x => exact .str x
  | tup h1 h2 h3 => exact .tup h1 h2 h3
  | lst h0 h1 h2 h3 => exact ⟨_, _, rfl, by rw [show O _ = none from h0]; simp, h1, h2, h3⟩
  | dK h0 h1 h2 h3 => exact ⟨_, _, rfl, by rw [show O _ = none from h0]; simp, h1, h2, h3⟩
  | dT h0 h1 h2 h3 => exact ⟨_, _, rfl, by rw [show O _ = none from h0]; simp, h1, h2, h3⟩
  | src => exact .src
  | pr h1 h2 h3 => exact .pr h1 h2 h3
theorem Top.read (h : Top S O H d v) : Rep S.ds (LR O) H d v := by
  cases d with
  | lst xs => obtain ⟨p, vs, rfl, n, r, z, i⟩ := h; exact .lst n r z (RepL.kp kpVR _ _ i)
  | dK xs => obtain ⟨p, vs, rfl, n, r, z, i⟩ := h; exact .dK n r z (RepK.kp kpVR _ _ i)
  | dT xs => obtain ⟨p, vs, rfl, n, r, z, i⟩ := h; exact .dT n r z (RepT.kp kpVR _ _ i)
  | _ => exact Rep.kp kpVR _ _ h
theorem Rep.read (h : Rep S.ds (LV O) H d v) : Rep S.ds (LR O) H d v := Rep.kp kpVR _ _ h
theorem Own1.top (h : Own1 S O H l d v) (hl : l ≠ 0) : Top S O H d v := by
  cases d with
  | lst xs => obtain ⟨p, vs, rfl, n, r, z, i⟩ := h; exact ⟨p, vs, rfl, by rw [n]; simpa using hl, r, z, i⟩
  | dK xs => obtain ⟨p, vs, rfl, n, r, z, i⟩ := h; exact ⟨p, vs, rfl, by rw [n]; simpa using hl, .inl r, z, i⟩
  | dT xs => obtain ⟨p, vs, rfl, n, r, z, i⟩ := h; exact ⟨p, vs, rfl, by rw [n]; simpa using hl, .inl r, z, i⟩
  | _ => exact h
theorem Own1L.repL (hl : l ≠ 0) : ∀ {xs : List D} {qs : List Addr}, Own1L S O H l xs qs → RepL S.ds (LR O) H xs (qs.map V.ref)
  | _, _, .nil => .nil
  | _, _, .cons h0 h1 h2 h3 t => .cons (.lst (show O _ ≠ _ by rw [h0]; simpa using hl) h1 h2 (RepL.kp kpVR _ _ h3)) (Own1L.repL hl t)
theorem Own2.read (h : Own2 S O H l d v) (hl : l ≠ 0) : Rep S.ds (LR O) H d v := by
  cases d with
  | lst xs => obtain ⟨p, qs, rfl, n, r, z, _, i⟩ := h; exact .lst (show O _ ≠ _ by rw [n]; simpa using hl) r (by simpa using z) (i.repL hl)
  | _ => exact Rep.kp kpVR _ _ h
/-- what an expression keeps -/
theorem Own1.ext (x : Ext S O H O' H') (hl : l ≠ 0) (h : Own1 S O H l d v) : Own1 S O' H' l d v := by
  cases d with
  | lst xs => obtain ⟨p, vs, rfl, n, r, z, i⟩ := h; exact ⟨p, vs, rfl, by rw [x.lab r, n], x.old r (by rw [n]; simpa using hl), z, RepL.kp x.kpV _ _ i⟩
  | dK xs => obtain ⟨p, vs, rfl, n, r, z, i⟩ := h; exact ⟨p, vs, rfl, by rw [x.lab r, n], x.old r (by rw [n]; simpa using hl), z, RepK.kp x.kpV _ _ i⟩
  | dT xs => obtain ⟨p, vs, rfl, n, r, z, i⟩ := h; exact ⟨p, vs, rfl, by rw [x.lab r, n], x.old r (by rw [n]; simpa using hl), z, RepT.kp x.kpV _ _ i⟩
  | _ => exact Rep.kp x.kpV _ _ h
theorem Own1L.ext (x : Ext S O H O' H') (hl : l ≠ 0) : ∀ {xs : List D} {qs : List Addr}, Own1L S O H l xs qs → Own1L S O' H' l xs qs
  | _, _, .nil => .nil
  | _, _, .cons h0 h1 h2 h3 t => .cons (by rw [x.lab h1, h0]) (x.old h1 (by rw [h0]; simpa using hl)) h2 (RepL.kp x.kpV _ _ h3) (Own1L.ext x hl t)
theorem Own2.ext (x : Ext S O H O' H') (hl : l ≠ 0) (h : Own2 S O H l d v) : Own2 S O' H' l d v := by
  cases d with
  | lst xs => obtain ⟨p, qs, rfl, n, r, z, nd, i⟩ := h; exact ⟨p, qs, rfl, by rw [x.lab r, n], x.old r (by rw [n]; simpa using hl), z, nd, i.ext x hl⟩
  | _ => exact Rep.kp x.kpV _ _ h
theorem Top.ext (x : Ext S O H O' H') (h : Top S O H d v) : Top S O' H' d v := by
  cases d with
  | lst xs => obtain ⟨p, vs, rfl, n, r, z, i⟩ := h; exact ⟨p, vs, rfl, by rw [x.lab r]; exact n, x.old r n, z, RepL.kp x.kpV _ _ i⟩
  | dK xs => obtain ⟨p, vs, rfl, n, r, z, i⟩ := h; exact ⟨p, vs, rfl, by rw [x.labR r]; exact n, x.rd r n, z, RepK.kp x.kpV _ _ i⟩
  | dT xs => obtain ⟨p, vs, rfl, n, r, z, i⟩ := h; exact ⟨p, vs, rfl, by rw [x.labR r]; exact n, x.rd r n, z, RepT.kp x.kpV _ _ i⟩
  | _ => exact Rep.kp x.kpV _ _ h
theorem TopL.ext (x : Ext S O H O' H') : ∀ {xs : List D} {vs : List V}, TopL S O H xs vs → TopL S O' H' xs vs
  | _, _, .nil => .nil
  | _, _, .cons h t => .cons (Top.ext x h) (TopL.ext x t)
theorem Top2.ext (x : Ext S O H O' H') (h : Top2 S O H d v) : Top2 S O' H' d v := by
  cases d with
  | lst xs => obtain ⟨p, vs, rfl, n, r, z, i⟩ := h; exact ⟨p, vs, rfl, by rw [x.lab r]; exact n, x.old r n, z, i.ext x⟩
  | _ => exact Rep.kp x.kpV _ _ h
theorem TopL.read : ∀ {xs : List D} {vs : List V}, TopL S O H xs vs → RepL S.ds (LR O) H xs vs
  | _, _, .nil => .nil
  | _, _, .cons h t => .cons (Top.read h) (TopL.read t)
theorem Top2.read (h : Top2 S O H d v) : Rep S.ds (LR O) H d v := by
  cases d with
  | lst xs => obtain ⟨p, vs, rfl, n, r, z, i⟩ := h; exact .lst n r z i.read
  | _ => exact Rep.kp kpVR _ _ h
theorem RepL.topL : ∀ {xs : List D} {vs : List V}, RepL S.ds (LV O) H xs vs → TopL S O H xs vs
  | _, _, .nil => .nil
  | _, _, .cons h t => .cons h.top (RepL.topL t)
theorem Rep.top2 (h : Rep S.ds (LV O) H d v) : Top2 S O H d v := by
  cases h with
  | non => exact .non
  | bl b => exact .bl b
  | int i => exact .int i
  | str x => exact .str x
  | tup h1 h2 h3 => exact .tup h1 h2 h3
  | lst h0 h1 h2 h3 => exact ⟨_, _, rfl, by rw [show O _ = none from h0]; simp, h1, h2, h3.topL⟩
  | dK h0 h1 h2 h3 => exact .dK h0 h1 h2 h3
  | dT h0 h1 h2 h3 => exact .dT h0 h1 h2 h3
  | src => exact .src
  | pr h1 h2 h3 => exact .pr h1 h2 h3
theorem Own1L.topL (hl : l ≠ 0) : ∀ {xs : List D} {qs : List Addr}, Own1L S O H l xs qs → TopL S O H xs (qs.map V.ref)
  | _, _, .nil => .nil
  | _, _, .cons h0 h1 h2 h3 t => .cons ⟨_, _, rfl, by rw [h0]; simpa using hl, h1, h2, h3⟩ (Own1L.topL hl t)
theorem Own2.top2 (h : Own2 S O H l d v) (hl : l ≠ 0) : Top2 S O H d v := by
  cases d with
  | lst xs => obtain ⟨p, qs, rfl, n, r, z, _, i⟩ := h; exact ⟨p, _, rfl, by rw [n]; simpa using hl, r, by simpa using z, i.topL hl⟩
  | _ => exact h
theorem RepM.ext {m : Nat} (x : Ext S O H O' H') (h : RepM m S O H d v) : RepM m S O' H' d v := by
  unfold RepM at h ⊢
  split at h
  · exact Rep.kp x.kpV _ _ h
  · exact Top.ext x h
  · exact Own1.ext x (by decide) h
  · exact Own2.ext x (by decide) h
  · exact Top2.ext x h
  · exact Rep.kp x.kpR _ _ h
/-- everything may be read -/
theorem RepM.read {m : Nat} (h : RepM m S O H d v) : Rep S.ds (LR O) H d v := by
  unfold RepM at h
  split at h
  · exact h.read
  · exact h.read
  · exact (h.top (by decide)).read
  · exact h.read (by decide)
  · exact h.read
  · exact h

/-- the objects labelled l are frozen -/
def thaw (O : Lab) (l : Nat) : Lab := fun a => if O a = some l then none else O a
theorem thaw_none {a : Addr} (h : O a = none) : thaw O l a = none := by unfold thaw; rw [h]; simp
theorem thaw_same {a : Addr} (h : O a = some l) : thaw O l a = none := by unfold thaw; rw [h]; simp
theorem thaw_ne {a : Addr} (h : O a ≠ some l) : thaw O l a = O a := by unfold thaw; rw [if_neg h]
theorem kpThaw : Kp (LV O) (LV (thaw O l)) H H := ⟨fun r _ h => ⟨thaw_none h, r⟩, fun r h => ⟨thaw_none h, r⟩, fun _ _ e => e, fun _ _ _ e => e⟩
theorem Own1.thaw (h : Own1 S O H l d v) : Rep S.ds (LV (thaw O l)) H d v := by
  cases d with
  | lst xs => obtain ⟨p, vs, rfl, n, r, z, i⟩ := h; exact .lst (thaw_same n) r z (RepL.kp kpThaw _ _ i)
  | dK xs => obtain ⟨p, vs, rfl, n, r, z, i⟩ := h; exact .dK (thaw_same n) (.inl r) z (RepK.kp kpThaw _ _ i)
  | dT xs => obtain ⟨p, vs, rfl, n, r, z, i⟩ := h; exact .dT (thaw_same n) (.inl r) z (RepT.kp kpThaw _ _ i)
  | _ => exact Rep.kp kpThaw _ _ h
theorem Own1L.thaw : ∀ {xs : List D} {qs : List Addr}, Own1L S O H l xs qs → RepL S.ds (LV (thaw O l)) H xs (qs.map V.ref)
  | _, _, .nil => .nil
  | _, _, .cons h0 h1 h2 h3 t => .cons (.lst (thaw_same h0) h1 h2 (RepL.kp kpThaw _ _ h3)) (Own1L.thaw t)
theorem Own2.thaw (h : Own2 S O H l d v) : Rep S.ds (LV (thaw O l)) H d v := by
  cases d with
  | lst xs => obtain ⟨p, qs, rfl, n, r, z, _, i⟩ := h; exact .lst (thaw_same n) r (by simpa using z) i.thaw
  | _ => exact Rep.kp kpThaw _ _ h
theorem SrcAt.relab (h : SrcAt S O H) (e1 : O' S.ds = O S.ds) (e2 : O' S.dc = O S.dc) : SrcAt S O' H := by
  obtain ⟨h1, h2, h3, h4⟩ := h
  exact ⟨e1.trans h1, e2.trans h2, h3, h4⟩
theorem SrcAt.thaw (h : SrcAt S O H) (hl : l ≠ 0) : SrcAt S (thaw O l) H :=
  h.relab (thaw_ne (by rw [h.1]; simpa using hl.symm)) (thaw_ne (by rw [h.2.1]; simpa using hl.symm))
theorem Step.thaw (hl : 2 ≤ l) : Step S O H (thaw O l) H where
  old := fun e _ => e
  lab := fun e n => thaw_ne (by rcases n with n | n | n <;> rw [n] <;> simp <;> omega)
  dom := fun e => ⟨_, e⟩
  tup := fun e => e
  gt := fun e => e
  src := fun h => h.thaw (by omega)
end

/-! ### a frame's state -/
abbrev DEnv := List (Option D)
/-- what stands at slot i of tag t -/
def SlotV (S : Sx) (O : Lab) (H : Hp) (t i : Nat) (d : D) (v : V) : Prop :=
  match t with
  | 0 => Rep S.ds (LV O) H d v
  | 1 => Own1 S O H (i + 3) d v
  | _ => Own2 S O H (i + 3) d v
abbrev Tags := List Nat
def tg (T : Tags) (i : Nat) : Nat := T.getD i 0
/-- for expressions -/
structure StE (S : Sx) (n : Nat) (T : Tags) (O : Lab) (ρ : DEnv) (σ : L2.St) (H : Hp) : Prop where
  lenV : σ.length = n
  lenD : ρ.length = n
  val : ∀ {i d}, ρ[i]? = some (some d) → ∃ v, σ[i]? = some (some v) ∧ Rep S.ds (LR O) H d v ∧ (tg T i = 0 → Rep S.ds (LV O) H d v) ∧ (tg T i = 1 → Top S O H d v) ∧ (2 ≤ tg T i → Top2 S O H d v)
  src : SrcAt S O H
/-- for statements -/
structure StS (S : Sx) (n : Nat) (T : Tags) (O : Lab) (ρ : DEnv) (σ : L2.St) (H : Hp) : Prop where
  lenV : σ.length = n
  lenD : ρ.length = n
  val : ∀ {i d}, ρ[i]? = some (some d) → ∃ v, σ[i]? = some (some v) ∧ SlotV S O H (tg T i) i d v
  src : SrcAt S O H
section
variable {S : Sx} {n : Nat} {T : Tags} {O O' : Lab} {ρ : DEnv} {σ : L2.St} {H H' : Hp}
theorem StS.e (h : StS S n T O ρ σ H) : StE S n T O ρ σ H := by
  refine ⟨h.lenV, h.lenD, fun {i d} e => ?_, h.src⟩
  obtain ⟨v, h1, h2⟩ := h.val e
  refine ⟨v, h1, ?_⟩
  unfold SlotV at h2
  split at h2
  · exact ⟨h2.read, fun _ => h2, fun _ => h2.top, fun _ => h2.top2⟩
  · rename_i q
    exact ⟨(h2.top (by omega)).read, (fun z => by rw [q] at z; cases z), (fun _ => h2.top (by omega)), fun z => by omega⟩
  · rename_i q1 q2
    exact ⟨h2.read (by omega), (fun z => absurd z q1), (fun z => absurd z q2), fun _ => h2.top2 (by omega)⟩
theorem StE.ext (x : Ext S O H O' H') (h : StE S n T O ρ σ H) : StE S n T O' ρ σ H' := by
  refine ⟨h.lenV, h.lenD, fun {i d} e => ?_, x.src h.src⟩
  obtain ⟨v, h1, h2, h3, h4, h5⟩ := h.val e
  exact ⟨v, h1, Rep.kp x.kpR _ _ h2, fun z => Rep.kp x.kpV _ _ (h3 z), fun z => Top.ext x (h4 z), fun z => Top2.ext x (h5 z)⟩
theorem StS.ext (x : Ext S O H O' H') (h : StS S n T O ρ σ H) : StS S n T O' ρ σ H' := by
  refine ⟨h.lenV, h.lenD, fun {i d} e => ?_, x.src h.src⟩
  obtain ⟨v, h1, h2⟩ := h.val e
  refine ⟨v, h1, ?_⟩
  unfold SlotV at h2 ⊢
  split at h2
  · exact Rep.kp x.kpV _ _ h2
  · exact h2.ext x (by omega)
  · exact h2.ext x (by omega)
end
end DL
/-! DL, part C: the small language and what it does to plain data. -/
namespace DL
open PySem PySem.Spec PyProof.Rows L2

inductive Bop where
  | add | sub | mul | fdiv | mod
  deriving DecidableEq
inductive Cop where
  | lt | le | gt | ge | eq | ne | is | isnot | inn | notin
  deriving DecidableEq
/-- built-in functions of values -/
inductive Bf where
  | len | sum | max1 | min1 | max2 | min2 | abs | int | all | any | tuple | list | sorted | dictT | dictK
  deriving DecidableEq
/-- tuple(..), list(..), sorted(..) of what is walked -/
inductive Sf where
  | tup | lst | srt
  deriving DecidableEq
/-- methods -/
inductive Mt where
  | index | get1 | get2 | count
  deriving DecidableEq
/-- isinstance's classes -/
inductive Cl where
  | int | bool | tuple | list | str
  deriving DecidableEq

/-- what the drawing source holds -/
inductive Sk where
  | left | mixed | turn
  deriving DecidableEq
inductive Pat where
  | p (i : Nat)
  | pn (is : List Nat)

mutual
inductive Ex where
  | v (i : Nat)
  | non
  | bl (b : Bool)
  | int (z : Int)
  | str (s : Str)
  | tup (es : Xs)
  | lst (es : Xs)
  | dnil (t : Bool)
  | bin (o : Bop) (a b : Ex)
  | neg (a : Ex)
  | nt (a : Ex)
  | and (es : Xs)
  | or (es : Xs)
  | ite (c a b : Ex)
  | cmp (o : Cop) (a b : Ex)
  | cmp2 (o o' : Cop) (a b c : Ex)
  | ix (a i : Ex)
  | sl (a : Ex) (lo hi : Eo)
  | rev (a : Ex)
  | call (f : Str) (es : Xs)
  | blt (f : Bf) (es : Xs)
  | seq (f : Sf) (it : It)
  | mth (m : Mt) (o : Ex) (es : Xs)
  | isin (a : Ex) (c : Cl)
  | sg (i : Nat) (k : Sk)
  | comp (p : Pat) (it : It) (ifs : Xs) (e : Ex) (own : List Nat)
/-- an optional part -/
inductive Eo where
  | no
  | yes (e : Ex)
/-- expressions in a row, starred or not -/
inductive Xs where
  | nil
  | cons (star : Bool) (e : Ex) (es : Xs)
/-- what is walked -/
inductive It where
  | seq (e : Ex)
  | rng1 (a : Ex)
  | rng2 (a b : Ex)
  | rng3 (a b c : Ex)
  | enum (e : Ex)
  | zip (a b : Ex)
  | items (e : Ex)
  | keys (e : Ex)
end

mutual
inductive Sm where
  | asg (i t : Nat) (e : Ex)
  | unp (is : List Nat) (e : Ex)
  | par (i t j u : Nat) (a b : Ex)
  | par3 (i t j u k v : Nat) (a b c : Ex)
  | setix (i : Nat) (k e : Ex)
  | setix2 (i : Nat) (k k' e : Ex)
  | app (i : Nat) (e : Ex)
  | ext (i : Nat) (e : Ex)
  | ret (e : Ex)
  | iff (c : Ex) (a b : Ss)
  | for_ (p : Pat) (it : It) (b : Ss)
  | whl (c : Ex) (b : Ss)
  | brk
  | cont
  | exp (e : Ex)
  | sset (i : Nat) (k : Sk) (e : Ex)
  | drain (i : Nat)
  | appPop (i j : Nat) (e : Ex)
  | fail
inductive Ss where
  | nil
  | cons (s : Sm) (r : Ss)
  | frz (i : Nat) (r : Ss)
  | drn (i j : Nat) (r : Ss)
end

/-! ### values -/
def Opt (o : Option D) (Q : D → Prop) : Prop := match o with
  | some d => Q d
  | none => False
theorem Opt.mono {o : Option D} {Q Q' : D → Prop} (h : Opt o Q) (f : ∀ d, Q d → Q' d) : Opt o Q' := by
  cases o with
  | none => exact h
  | some d => exact f d h
theorem Opt.get {o : Option D} {Q : D → Prop} (h : Opt o Q) : ∃ d, o = some d ∧ Q d := by
  cases o with
  | none => exact h.elim
  | some d => exact ⟨d, rfl, h⟩
@[simp] theorem Opt_some {d : D} {Q : D → Prop} : Opt (some d) Q = Q d := rfl
@[simp] theorem Opt_none {Q : D → Prop} : Opt none Q = False := rfl

def toInt : D → Option Int
  | .int i => some i
  | _ => none
def toInts : List D → Option (List Int)
  | [] => some []
  | .int i :: ds => (toInts ds).map (i :: ·)
  | _ :: _ => none
def toBls : List D → Option (List Bool)
  | [] => some []
  | .bl b :: ds => (toBls ds).map (b :: ·)
  | _ :: _ => none
@[simp] theorem toInts_map (ns : List Int) : toInts (ns.map D.int) = some ns := by
  induction ns with
  | nil => rfl
  | cons n ns ih => simp [toInts, ih]
@[simp] theorem toBls_map (ns : List Bool) : toBls (ns.map D.bl) = some ns := by
  induction ns with
  | nil => rfl
  | cons n ns ih => simp [toBls, ih]
theorem toInts_eq : ∀ {ds : List D} {ns : List Int}, toInts ds = some ns → ds = ns.map D.int
  | [], ns, h => by simp [toInts] at h; subst h; rfl
  | d :: ds, ns, h => by
    cases d with
    | int i =>
      rw [toInts] at h
      cases e : toInts ds with
      | none => rw [e] at h; cases h
      | some m =>
        rw [e] at h; cases h
        rw [toInts_eq e]; rfl
    | _ => simp [toInts] at h
theorem toBls_eq : ∀ {ds : List D} {ns : List Bool}, toBls ds = some ns → ds = ns.map D.bl
  | [], ns, h => by simp [toBls] at h; subst h; rfl
  | d :: ds, ns, h => by
    cases d with
    | bl i =>
      rw [toBls] at h
      cases e : toBls ds with
      | none => rw [e] at h; cases h
      | some m =>
        rw [e] at h; cases h
        rw [toBls_eq e]; rfl
    | _ => simp [toBls] at h

mutual
/-- as the library's data -/
def toPy : D → PyData
  | .non => .none
  | .bl b => .bool b
  | .int i => .int i
  | .str s => .str s
  | .tup xs => .tuple (toPys xs)
  | .lst xs => .list (toPys xs)
  | .dK _ => .dict []
  | .dT _ => .dict []
  | .pr _ _ => .dict []
  | .src => .dict []
def toPys : List D → List PyData
  | [] => []
  | x :: xs => toPy x :: toPys xs
end
mutual
/-- no dict within, not deeper than n -/
def plain : Nat → D → Bool
  | _, .non => true
  | _, .bl _ => true
  | _, .int _ => true
  | _, .str _ => true
  | 0, _ => false
  | n + 1, .tup xs => plains n xs
  | n + 1, .lst xs => plains n xs
  | _ + 1, .dK _ => false
  | _ + 1, .dT _ => false
  | _ + 1, .pr _ _ => false
  | _ + 1, .src => false
def plains : Nat → List D → Bool
  | _, [] => true
  | n, x :: xs => plain n x && plains n xs
end
mutual
/-- == -/
def eqD : D → D → Bool
  | .non, .non => true
  | .bl a, .bl b => a == b
  | .bl a, .int j => (if a then 1 else 0) == j
  | .int i, .bl b => i == (if b then 1 else 0)
  | .int i, .int j => i == j
  | .str x, .str y => x == y
  | .lst xs, .lst ys => eqDs xs ys
  | .tup xs, .tup ys => eqDs xs ys
  | _, _ => false
def eqDs : List D → List D → Bool
  | [], [] => true
  | x :: xs, y :: ys => eqD x y && eqDs xs ys
  | [], _ :: _ => false
  | _ :: _, [] => false
end

mutual
/-- alike, place by place -/
def alikeD : D → D → Bool
  | .bl _, .bl _ => true
  | .int _, .int _ => true
  | .str _, .str _ => true
  | .lst xs, .lst ys => alikeDs xs ys
  | .tup xs, .tup ys => alikeDs xs ys
  | _, _ => false
def alikeDs : List D → List D → Bool
  | [], _ => true
  | _ :: _, [] => true
  | x :: xs, y :: ys => alikeD x y && alikeDs xs ys
end
/-- < -/
def ltD (a b : D) : Bool := PySem.W.dataLt (toPy a) (toPy b)
def cmpOk (a b : List D) : Bool := (alikeDs a b && alikeDs b a) && (plains 57 a && plains 57 b)

def bopD : Bop → D → D → Option D
  | .add, .int a, .int b => some (.int (a + b))
  | .add, .lst a, .lst b => if a.length + b.length ≤ sizeLine then some (.lst (a ++ b)) else none
  | .add, .tup a, .tup b => if a.length + b.length ≤ sizeLine then some (.tup (a ++ b)) else none
  | .sub, .int a, .int b => some (.int (a - b))
  | .mul, .int a, .int b => if (a.natAbs < 2 ^ 64) ∨ (b.natAbs < 2 ^ 64) then some (.int (a * b)) else none
  | .mul, .lst a, .int k => if a.length * k.toNat ≤ sizeLine ∧ k.natAbs < 2 ^ 62 then some (.lst (List.replicate k.toNat a).flatten) else none
  | .mul, .tup a, .int k => if 0 ≤ k ∧ k ≤ 1000 ∧ a.length ≤ 1000 then some (.tup (List.replicate k.toNat a).flatten) else none
  | .fdiv, .int a, .int b => if 0 < b ∧ b < 1073741824 then some (.int (a / b)) else none
  | .mod, .int a, .int b => if 0 < b then some (.int (a % b)) else none
  | _, _, _ => none

def isInts (d : D) : Option (List Int) := match d with
  | .tup xs => toInts xs
  | _ => none

/-- x in xs: by == -/
def inD (x : D) (xs : List D) : Bool := xs.any fun y => eqD y x

def copD : Cop → D → D → Option Bool
  | .lt, .int a, .int b => some (decide (a < b))
  | .gt, .int a, .int b => some (decide (b < a))
  | .le, .int a, .int b => some (decide (a ≤ b))
  | .ge, .int a, .int b => some (decide (b ≤ a))
  | .lt, .tup a, .tup b => if cmpOk a b = true then some (ltD (.tup a) (.tup b)) else none
  | .gt, .tup a, .tup b => if cmpOk a b = true then some (ltD (.tup b) (.tup a)) else none
  | .le, .tup a, .tup b => if cmpOk a b = true then some (!ltD (.tup b) (.tup a)) else none
  | .ge, .tup a, .tup b => if cmpOk a b = true then some (!ltD (.tup a) (.tup b)) else none
  | .eq, a, b => if (plain 58 a && plain 58 b) = true then some (eqD a b) else none
  | .ne, a, b => if (plain 58 a && plain 58 b) = true then some (!eqD a b) else none
  | .is, .bl a, .bl b => some (decide (a = b))
  | .isnot, .bl a, .bl b => some (!decide (a = b))
  | .is, .non, .non => some true
  | .is, .bl _, .non => some false
  | .is, .int _, .non => some false
  | .is, .tup _, .non => some false
  | .is, .lst _, .non => some false
  | .isnot, .non, .non => some false
  | .isnot, .bl _, .non => some true
  | .isnot, .int _, .non => some true
  | .isnot, .tup _, .non => some true
  | .isnot, .lst _, .non => some true
  | .inn, x, .tup ys => if plain 58 x && plains 58 ys then some (inD x ys) else none
  | .inn, x, .lst ys => if plain 58 x && plains 58 ys then some (inD x ys) else none
  | .notin, x, .tup ys => if plain 58 x && plains 58 ys then some (!inD x ys) else none
  | .notin, x, .lst ys => if plain 58 x && plains 58 ys then some (!inD x ys) else none
  | .inn, x, .dK kvs => (toKey x).map fun k => (dGet kvs k).isSome
  | .notin, x, .dK kvs => (toKey x).map fun k => !(dGet kvs k).isSome
  | .inn, x, .dT kvs => (keyT x).map fun k => (dGet kvs k).isSome
  | .notin, x, .dT kvs => (keyT x).map fun k => !(dGet kvs k).isSome
  | _, _, _ => none

/-- the place of an index -/
abbrev ixAt : Nat → Int → Option Nat := L2.ixN
def ixD : D → D → Option D
  | .lst xs, .int i => (ixAt xs.length i).bind fun j => xs[j]?
  | .tup xs, .int i => (ixAt xs.length i).bind fun j => xs[j]?
  | .dK kvs, x => (toKey x).bind fun k => dGet kvs k
  | .dT kvs, x => (keyT x).bind fun k => dGet kvs k
  | _, _ => none
/-- slices -/
abbrev slIx : Nat → Nat → Option Int → Nat := HT.sIx
def cutD (xs : List D) (lo hi : Option Int) : List D := (xs.drop (slIx xs.length 0 lo)).take (slIx xs.length xs.length hi - slIx xs.length 0 lo)
def slD (d : D) (lo hi : Option Int) : Option D := match d with
  | .lst xs => some (.lst (cutD xs lo hi))
  | .tup xs => some (.tup (cutD xs lo hi))
  | _ => none
def revD : D → Option D
  | .lst xs => some (.lst xs.reverse)
  | .tup xs => some (.tup xs.reverse)
  | _ => none

def maxI : List Int → Int
  | [] => 0
  | x :: xs => xs.foldl max x
def minI : List Int → Int
  | [] => 0
  | x :: xs => xs.foldl min x
/-- the order of data as the library tells it -/
def leD (a b : D) : Bool := PySem.W.dataLe false toPy a b
def sortD (xs : List D) : List D := xs.mergeSort leD
/-- a tuple -/
def nonNil : D → Bool
  | .tup _ => true
  | _ => false
def notTup : D → Bool
  | .tup _ => false
  | .non => false
  | _ => true
/-- what sorted takes -/
def sortable (xs : List D) : Bool := plains 50 xs && (xs.all fun x => xs.all fun y => alikeD x y) && (xs.all nonNil || xs.all notTup)

def isD : Cl → D → Option Bool
  | .int, .int _ => some true
  | .int, .bl _ => some true
  | .int, .non => some false
  | .int, .tup _ => some false
  | .int, .lst _ => some false
  | .bool, .bl _ => some true
  | .bool, .int _ => some false
  | .bool, .non => some false
  | .bool, .tup _ => some false
  | .bool, .lst _ => some false
  | .tuple, .tup _ => some true
  | .tuple, .int _ => some false
  | .tuple, .bl _ => some false
  | .tuple, .non => some false
  | .tuple, .lst _ => some false
  | _, _ => none

/-- pairs of a dict -/
def toPairT : D → Option (NestedKey × D)
  | .tup [k, x] => (keyT k).map fun k => (k, x)
  | _ => none
def toPairK : D → Option (Key × D)
  | .tup [k, x] => (toKey k).map fun k => (k, x)
  | _ => none
def seqOf : D → Option (List D)
  | .lst xs => some xs
  | .tup xs => some xs
  | _ => none
/-- what may be unpacked -/
def seqU : D → Option (List D)
  | .lst xs => some xs
  | .tup xs => some xs
  | .pr x y => some [x, y]
  | _ => none
def mergeD {κ : Type} [DecidableEq κ] (kvs more : List (κ × D)) : List (κ × D) := more.foldl (fun acc kv => dPut acc kv.1 kv.2) kvs

def lenD : List D → Option D
  | [.lst xs] => some (.int xs.length)
  | [.tup xs] => some (.int xs.length)
  | [.dK xs] => some (.int xs.length)
  | [.dT xs] => some (.int xs.length)
  | _ => none
def sumD : List D → Option D
  | [.lst xs] => (toInts xs).map fun ns => .int ns.sum
  | [.tup xs] => (toInts xs).map fun ns => .int ns.sum
  | _ => none
def maxD1 : List D → Option D
  | [.lst xs] => (toInts xs).bind fun ns => if ns = [] then none else some (.int (maxI ns))
  | [.tup xs] => (toInts xs).bind fun ns => if ns = [] then none else some (.int (maxI ns))
  | _ => none
def minD1 : List D → Option D
  | [.lst xs] => (toInts xs).bind fun ns => if ns = [] then none else some (.int (minI ns))
  | [.tup xs] => (toInts xs).bind fun ns => if ns = [] then none else some (.int (minI ns))
  | _ => none
def maxD2 : List D → Option D
  | [.int a, .int b] => some (.int (if b > a then b else a))
  | _ => none
def minD2 : List D → Option D
  | [.int a, .int b] => some (.int (if b < a then b else a))
  | _ => none
def absD : List D → Option D
  | [.int a] => some (.int (if a < 0 then -a else a))
  | _ => none
def intD : List D → Option D
  | [.int a] => some (.int a)
  | [.bl a] => some (.int (if a = true then 1 else 0))
  | _ => none
def allD : List D → Option D
  | [.lst xs] => (toBls xs).map fun bs => .bl (bs.all id)
  | _ => none
def anyD : List D → Option D
  | [.lst xs] => (toBls xs).map fun bs => .bl (bs.any id)
  | _ => none
def tupleD : List D → Option D
  | [.lst xs] => some (.tup xs)
  | [.tup xs] => some (.tup xs)
  | _ => none
def keysK (kvs : List (Key × D)) : List D := kvs.map fun kv => keyD kv.1
def keysT (kvs : List (NestedKey × D)) : List D := kvs.map fun kv => ofNK kv.1
def listD : List D → Option D
  | [.lst xs] => some (.lst xs)
  | [.tup xs] => some (.lst xs)
  | [.dT kvs] => some (.lst (keysT kvs))
  | _ => none
def sortedD : List D → Option D
  | [.lst xs] => if sortable xs = true then some (.lst (sortD xs)) else none
  | [.tup xs] => if sortable xs = true then some (.lst (sortD xs)) else none
  | [.dK kvs] => if sortable (keysK kvs) = true then some (.lst (sortD (keysK kvs))) else none
  | [.dT kvs] => if sortable (keysT kvs) = true then some (.lst (sortD (keysT kvs))) else none
  | _ => none
def dictTD : List D → Option D
  | [.lst xs] => (xs.mapM toPairT).map fun kvs => .dT (mergeD [] kvs)
  | [.tup xs] => (xs.mapM toPairT).map fun kvs => .dT (mergeD [] kvs)
  | _ => none
def dictKD : List D → Option D
  | [.lst xs] => (xs.mapM toPairK).map fun kvs => .dK (mergeD [] kvs)
  | _ => none
def bltD : Bf → List D → Option D
  | .len => lenD
  | .sum => sumD
  | .max1 => maxD1
  | .min1 => minD1
  | .max2 => maxD2
  | .min2 => minD2
  | .abs => absD
  | .int => intD
  | .all => allD
  | .any => anyD
  | .tuple => tupleD
  | .list => listD
  | .sorted => sortedD
  | .dictT => dictTD
  | .dictK => dictKD

/-- an iterator's pair as the tuple that a collecting call makes of it -/
def unPr : D → D
  | .pr x y => .tup [x, y]
  | d => d
def sfD : Sf → List D → Option D
  | .tup, ds => some (.tup ds)
  | .lst, ds => some (.lst ds)
  | .srt, ds => if sortable ds = true then some (.lst (sortD ds)) else none
/-- the first place of what is equal -/
def idxD (x : D) (xs : List D) : Option D := if plain 58 x && plains 58 xs then (xs.findIdx? fun y => eqD y x).map (fun (j : Nat) => D.int (j : Int)) else none
def cntD (x : D) (xs : List D) : Option D := if plain 58 x && plains 58 xs then some (.int (xs.countP fun y => eqD y x : Nat)) else none
def mthD : Mt → D → List D → Option D
  | .index, .lst xs, [x] => idxD x xs
  | .index, .tup xs, [x] => idxD x xs
  | .count, .lst xs, [x] => cntD x xs
  | .count, .tup xs, [x] => cntD x xs
  | .get2, .dK kvs, [k, x] => (toKey k).map fun k => (dGet kvs k).getD x
  | .get2, .dT kvs, [k, x] => (keyT k).map fun k => (dGet kvs k).getD x
  | .get1, .dK kvs, [k] => (toKey k).map fun k => (dGet kvs k).getD .non
  | .get1, .dT kvs, [k] => (keyT k).map fun k => (dGet kvs k).getD .non
  | _, _, _ => none

/-- what has the method -/
def mtOk : Mt → D → Bool
  | .index, .lst _ => true
  | .index, .tup _ => true
  | .count, .lst _ => true
  | .count, .tup _ => true
  | .get1, .dK _ => true
  | .get1, .dT _ => true
  | .get2, .dK _ => true
  | .get2, .dT _ => true
  | _, _ => false

/-! ### what holds if .. -/
/-- functions of the text: does it hand back a new list; what it does -/
abbrev Gam := Str → Option (Bool × (List D → (D → Prop) → Prop))

def bindPat (p : Pat) (d : D) (ρ : DEnv) (k : DEnv → Prop) : Prop := match p with
  | .p i => k (ρ.set i (some d))
  | .pn is => match seqU d with
    | some xs => xs.length = is.length ∧ k ((is.zip xs).foldl (fun ρ p => ρ.set p.1 (some p.2)) ρ)
    | none => False
def wipeD (ρ : DEnv) : List Nat → DEnv
  | [] => ρ
  | v :: vs => (wipeD ρ vs).set v none
/-- each item in turn: what it gives, or nothing -/
def wpMap (f : D → (Option D → Prop) → Prop) : List D → (List D → Prop) → Prop
  | [], Q => Q []
  | d :: ds, Q => f d fun y => wpMap f ds fun ys => Q (match y with | some y => y :: ys | none => ys)
def dB (Q : Bool → Prop) (d : D) : Prop := match d with
  | .bl b => Q b
  | _ => False
def dI (Q : Int → Prop) (d : D) : Prop := match d with
  | .int b => Q b
  | _ => False
def rangeD (lo : Int) (c : Int) (n : Nat) : List D := (List.range n).map fun (k : Nat) => .int (lo + (k : Int) * c)
def enumD (xs : List D) : List D := xs.zipIdx.map fun p => .pr (.int (p.2 : Int)) p.1
def zipD : D → D → Option (List D)
  | .lst xs, .lst ys => some ((xs.zip ys).map fun p => .pr p.1 p.2)
  | .tup xs, .tup ys => some ((xs.zip ys).map fun p => .pr p.1 p.2)
  | .lst xs, .tup ys => some ((xs.zip ys).map fun p => .pr p.1 p.2)
  | .tup xs, .lst ys => some ((xs.zip ys).map fun p => .pr p.1 p.2)
  | _, _ => none
def smallI (i : Int) : Prop := i.natAbs < 1000000

/-- what the source may take -/
def skOk : Sk → Int → Prop
  | .mixed, z => 0 ≤ z ∧ z < 2147483648
  | _, _ => True
mutual
def wpE (Γ : Gam) : Ex → DEnv → (D → Prop) → Prop
  | .v i, ρ, Q => Opt (ρ.getD i none) Q
  | .non, _, Q => Q .non
  | .bl b, _, Q => Q (.bl b)
  | .int z, _, Q => Q (.int z)
  | .str s, _, Q => Q (.str s)
  | .tup es, ρ, Q => wpXs Γ es ρ fun ds => ds.length ≤ sizeLine ∧ Q (.tup ds)
  | .lst es, ρ, Q => wpXs Γ es ρ fun ds => ds.length ≤ sizeLine ∧ Q (.lst ds)
  | .dnil t, _, Q => Q (if t then .dT [] else .dK [])
  | .bin o a b, ρ, Q => wpE Γ a ρ fun x => wpE Γ b ρ fun y => Opt (bopD o x y) Q
  | .neg a, ρ, Q => wpE Γ a ρ (dI fun i => Q (.int (-i)))
  | .nt a, ρ, Q => wpE Γ a ρ (dB fun b => Q (.bl (!b)))
  | .and es, ρ, Q => wpAnd Γ es ρ fun b => Q (.bl b)
  | .or es, ρ, Q => wpOr Γ es ρ fun b => Q (.bl b)
  | .ite c a b, ρ, Q => wpE Γ c ρ (dB fun t => if t = true then wpE Γ a ρ Q else wpE Γ b ρ Q)
  | .cmp o a b, ρ, Q => wpE Γ a ρ fun x => wpE Γ b ρ fun y => Opt ((copD o x y).map .bl) Q
  | .cmp2 o o' a b c, ρ, Q => wpE Γ a ρ fun x => wpE Γ b ρ fun y => Opt ((copD o x y).map .bl) (dB fun t => if t = true then wpE Γ c ρ fun z => Opt ((copD o' y z).map .bl) Q else Q (.bl false))
  | .ix a i, ρ, Q => wpE Γ a ρ fun x => wpE Γ i ρ fun y => Opt (ixD x y) Q
  | .sl a lo hi, ρ, Q => wpE Γ a ρ fun x => wpEo Γ lo ρ fun l => wpEo Γ hi ρ fun h => Opt (slD x l h) Q
  | .rev a, ρ, Q => wpE Γ a ρ fun x => Opt (revD x) Q
  | .call f es, ρ, Q => match Γ f with
    | some (_, g) => wpXs Γ es ρ fun ds => g ds Q
    | none => False
  | .blt f es, ρ, Q => wpXs Γ es ρ fun ds => Opt (bltD f ds) Q
  | .seq f it, ρ, Q => wpIt Γ it ρ fun ds => Opt (sfD f (ds.map unPr)) Q
  | .mth m o es, ρ, Q => wpE Γ o ρ fun x => mtOk m x = true ∧ wpXs Γ es ρ fun ds => Opt (mthD m x ds) Q
  | .isin a c, ρ, Q => wpE Γ a ρ fun x => Opt ((isD c x).map .bl) Q
  | .sg i _, ρ, Q => ρ.getD i none = some .src ∧ ∀ z, Q (.int z)
  | .comp p it ifs e own, ρ, Q => wpIt Γ it ρ fun ds => wpMap (fun d k => bindPat p d (wipeD ρ own) fun ρ' => wpAnd Γ ifs ρ' fun b => if b = true then wpE Γ e ρ' fun y => k (some y) else k none) ds fun ys => Q (.lst ys)
def wpEo (Γ : Gam) : Eo → DEnv → (Option Int → Prop) → Prop
  | .no, _, Q => Q none
  | .yes e, ρ, Q => wpE Γ e ρ (dI fun i => Q (some i))
def wpXs (Γ : Gam) : Xs → DEnv → (List D → Prop) → Prop
  | .nil, _, Q => Q []
  | .cons false e es, ρ, Q => wpE Γ e ρ fun d => wpXs Γ es ρ fun ds => Q (d :: ds)
  | .cons true e es, ρ, Q => wpE Γ e ρ fun d => match seqOf d with
    | some xs => wpXs Γ es ρ fun ds => Q (xs ++ ds)
    | none => False
/-- all true -/
def wpAnd (Γ : Gam) : Xs → DEnv → (Bool → Prop) → Prop
  | .nil, _, Q => Q true
  | .cons _ e es, ρ, Q => wpE Γ e ρ (dB fun b => if b = true then wpAnd Γ es ρ Q else Q false)
def wpOr (Γ : Gam) : Xs → DEnv → (Bool → Prop) → Prop
  | .nil, _, Q => Q false
  | .cons _ e es, ρ, Q => wpE Γ e ρ (dB fun b => if b = true then Q true else wpOr Γ es ρ Q)
/-- the items that are walked -/
def wpIt (Γ : Gam) : It → DEnv → (List D → Prop) → Prop
  | .seq e, ρ, Q => wpE Γ e ρ fun d => match seqOf d with
    | some xs => Q xs
    | none => False
  | .rng1 a, ρ, Q => wpE Γ a ρ (dI fun n => smallI n ∧ Q (rangeD 0 1 n.toNat))
  | .rng2 a b, ρ, Q => wpE Γ a ρ (dI fun m => wpE Γ b ρ (dI fun n => smallI m ∧ smallI n ∧ Q (rangeD m 1 (n - m).toNat)))
  | .rng3 a b c, ρ, Q => wpE Γ a ρ (dI fun m => wpE Γ b ρ (dI fun n => wpE Γ c ρ (dI fun s => smallI m ∧ smallI n ∧ s = -1 ∧ Q (rangeD m s (m - n).toNat))))
  | .enum e, ρ, Q => wpE Γ e ρ fun d => match seqOf d with
    | some xs => Q (enumD xs)
    | none => False
  | .zip a b, ρ, Q => wpE Γ a ρ fun d => wpE Γ b ρ fun d' => match zipD d d' with
    | some ds => Q ds
    | none => False
  | .items e, ρ, Q => wpE Γ e ρ fun d => match d with
    | .dK kvs => Q (kvs.map fun kv => .pr (keyD kv.1) kv.2)
    | .dT kvs => Q (kvs.map fun kv => .pr (ofNK kv.1) kv.2)
    | _ => False
  | .keys e, ρ, Q => wpE Γ e ρ fun d => match d with
    | .dK kvs => Q (keysK kvs)
    | .dT kvs => Q (keysT kvs)
    | _ => False
end

/-- what is wanted behind a block -/
structure Kn where
  nx : DEnv → Prop
  rt : D → Prop
  bk : DEnv → Prop
  ct : DEnv → Prop
def wpLoop (f : D → DEnv → Kn → Prop) : List D → DEnv → Kn → Prop
  | [], ρ, K => K.nx ρ
  | d :: ds, ρ, K => f d ρ ⟨fun ρ' => wpLoop f ds ρ' K, K.rt, K.nx, fun ρ' => wpLoop f ds ρ' K⟩
def wpWhile (c : DEnv → (Bool → Prop) → Prop) (b : DEnv → Kn → Prop) (ρ : DEnv) (K : Kn) : Prop :=
  ∃ I : Nat → DEnv → Prop, (∃ m, I m ρ) ∧ ∀ m ρ, I m ρ → c ρ fun t => if t = true then b ρ ⟨fun ρ' => ∃ m', m' < m ∧ I m' ρ', K.rt, K.nx, fun ρ' => ∃ m', m' < m ∧ I m' ρ'⟩ else K.nx ρ
/-- x[k] = v -/
def setD (d k v : D) : Option D := match d with
  | .lst xs => match k with
    | .int i => (ixAt xs.length i).map fun j => .lst (xs.set j v)
    | _ => none
  | .dK kvs => if kvs.length < sizeLine then (toKey k).map fun k => .dK (dPut kvs k v) else none
  | .dT kvs => if kvs.length < sizeLine then (keyT k).map fun k => .dT (dPut kvs k v) else none
  | _ => none
def isLst : D → Bool
  | .lst _ => true
  | _ => false
/-- x[k], a row -/
def rowD (d k : D) : Option D := match d, k with
  | .lst xs, .int i => (ixAt xs.length i).bind fun j => xs[j]?
  | _, _ => none
/-- x[k][k'] = v, r the row -/
def setD2 (d k r k' v : D) : Option D := match d, k, r, k' with
  | .lst xs, .int i, .lst ys, .int i' => (ixAt xs.length i).bind fun j => (ixAt ys.length i').map fun j' => .lst (xs.set j (.lst (ys.set j' v)))
  | _, _, _, _ => none
def appD (d v : D) : Option D := match d with
  | .lst xs => if xs.length < sizeLine then some (.lst (xs ++ [v])) else none
  | _ => none
def extD (d v : D) : Option D := match d, v with
  | .lst xs, .lst ys => if xs.length + ys.length ≤ sizeLine then some (.lst (xs ++ ys)) else none
  | _, _ => none

/-- a list without its item k, and that item -/
def popD (d k : D) : Option (D × D) := match d, k with
  | .lst xs, .int z => if 0 ≤ z then (xs[z.toNat]?).map fun y => (y, .lst (xs.eraseIdx z.toNat)) else none
  | _, _ => none
def Opt2 (o : Option (D × D)) (Q : D → D → Prop) : Prop := match o with
  | some p => Q p.1 p.2
  | none => False
theorem Opt2.mono {o : Option (D × D)} {Q Q' : D → D → Prop} (h : Opt2 o Q) (f : ∀ a b, Q a b → Q' a b) : Opt2 o Q' := by
  cases o with
  | none => exact h
  | some p => exact f _ _ h
theorem Opt2.get {o : Option (D × D)} {Q : D → D → Prop} (h : Opt2 o Q) : ∃ a b, o = some (a, b) ∧ Q a b := by
  cases o with
  | none => exact h.elim
  | some p => exact ⟨p.1, p.2, rfl, h⟩
mutual
def wpS (Γ : Gam) : Sm → DEnv → Kn → Prop
  | .asg i _ e, ρ, K => wpE Γ e ρ fun d => K.nx (ρ.set i (some d))
  | .unp is e, ρ, K => wpE Γ e ρ fun d => bindPat (.pn is) d ρ K.nx
  | .par i _ j _ a b, ρ, K => wpE Γ a ρ fun x => wpE Γ b ρ fun y => K.nx ((ρ.set i (some x)).set j (some y))
  | .par3 i _ j _ k _ a b c, ρ, K => wpE Γ a ρ fun x => wpE Γ b ρ fun y => wpE Γ c ρ fun z => K.nx (((ρ.set i (some x)).set j (some y)).set k (some z))
  | .setix i k e, ρ, K => Opt (ρ.getD i none) fun d => wpE Γ e ρ fun v => wpE Γ k ρ fun x => Opt (setD d x v) fun d' => K.nx (ρ.set i (some d'))
  | .setix2 i k k' e, ρ, K => Opt (ρ.getD i none) fun d => wpE Γ e ρ fun v => wpE Γ k ρ fun x => Opt (rowD d x) fun r => wpE Γ k' ρ fun x' => Opt (setD2 d x r x' v) fun d' => K.nx (ρ.set i (some d'))
  | .app i e, ρ, K => Opt (ρ.getD i none) fun d => isLst d = true ∧ wpE Γ e ρ fun v => Opt (appD d v) fun d' => K.nx (ρ.set i (some d'))
  | .ext i e, ρ, K => Opt (ρ.getD i none) fun d => wpE Γ e ρ fun v => Opt (extD d v) fun d' => K.nx (ρ.set i (some d'))
  | .ret e, ρ, K => wpE Γ e ρ K.rt
  | .iff c a b, ρ, K => wpE Γ c ρ (dB fun t => if t = true then wpSs Γ a ρ K else wpSs Γ b ρ K)
  | .for_ p it b, ρ, K => wpIt Γ it ρ fun ds => wpLoop (fun d ρ K => bindPat p d ρ fun ρ' => wpSs Γ b ρ' K) ds ρ K
  | .whl c b, ρ, K => wpWhile (fun ρ Q => wpE Γ c ρ (dB Q)) (fun ρ K => wpSs Γ b ρ K) ρ K
  | .brk, ρ, K => K.bk ρ
  | .cont, ρ, K => K.ct ρ
  | .exp e, ρ, K => wpE Γ e ρ fun _ => K.nx ρ
  | .sset i k e, ρ, K => ρ.getD i none = some .src ∧ wpE Γ e ρ (dI fun z => skOk k z ∧ K.nx ρ)
  | .drain i, ρ, K => ρ.getD i none = some .src ∧ K.nx ρ
  | .appPop i j e, ρ, K => Opt (ρ.getD i none) fun f => isLst f = true ∧ Opt (ρ.getD j none) fun d => isLst d = true ∧ wpE Γ e ρ fun k => Opt2 (popD d k) fun y r => Opt (appD f y) fun f' => K.nx ((ρ.set j (some r)).set i (some f'))
  | .fail, _, _ => False
def wpSs (Γ : Gam) : Ss → DEnv → Kn → Prop
  | .nil, ρ, K => K.nx ρ
  | .cons s r, ρ, K => wpS Γ s ρ ⟨fun ρ' => wpSs Γ r ρ' K, K.rt, K.bk, K.ct⟩
  | .frz _ r, ρ, K => wpSs Γ r ρ K
  | .drn i j r, ρ, K => ρ.getD i none = some .src ∧ j < ρ.length ∧ wpSs Γ r (ρ.set j none) K
end

/-! ### they are monotone -/
/-- every function of the text is monotone -/
def GMono (Γ : Gam) : Prop := ∀ f b g, Γ f = some (b, g) → ∀ ds (Q Q' : D → Prop), (∀ d, Q d → Q' d) → g ds Q → g ds Q'
theorem dB.mono {Q Q' : Bool → Prop} (f : ∀ b, Q b → Q' b) : ∀ d, dB Q d → dB Q' d := by
  intro d h; cases d <;> first | exact f _ h | exact h
theorem dI.mono {Q Q' : Int → Prop} (f : ∀ b, Q b → Q' b) : ∀ d, dI Q d → dI Q' d := by
  intro d h; cases d <;> first | exact f _ h | exact h
theorem bindPat.mono {p : Pat} {d : D} {ρ : DEnv} {k k' : DEnv → Prop} (f : ∀ r, k r → k' r) (h : bindPat p d ρ k) : bindPat p d ρ k' := by
  cases p with
  | p i => exact f _ h
  | pn is =>
    simp only [bindPat] at h ⊢
    cases e : seqU d with
    | none => rw [e] at h; exact h.elim
    | some xs => rw [e] at h; exact ⟨h.1, f _ h.2⟩
theorem wpMap.mono {f f' : D → (Option D → Prop) → Prop} (hf : ∀ d k k', (∀ y, k y → k' y) → f d k → f' d k') : ∀ {ds : List D} {Q Q' : List D → Prop}, (∀ ys, Q ys → Q' ys) → wpMap f ds Q → wpMap f' ds Q'
  | [], _, _, g, h => g _ h
  | d :: ds, _, _, g, h => hf d _ _ (fun y h => wpMap.mono hf (fun ys => g _) h) h
theorem ite_mono {c : Prop} [Decidable c] {A A' B B' : Prop} (f : A → A') (g : B → B') (h : if c then A else B) : if c then A' else B' := by
  split at h
  · rename_i q; rw [if_pos q]; exact f h
  · rename_i q; rw [if_neg q]; exact g h
section
variable {Γ : Gam} (hΓ : GMono Γ)
include hΓ
mutual
theorem wpE.mono : ∀ (e : Ex) (ρ : DEnv) {Q Q' : D → Prop}, (∀ d, Q d → Q' d) → wpE Γ e ρ Q → wpE Γ e ρ Q'
  | .v i, ρ, _, _, f, h => by rw [wpE] at h ⊢; exact h.mono f
  | .non, ρ, _, _, f, h => by rw [wpE] at h ⊢; exact f _ h
  | .bl b, ρ, _, _, f, h => by rw [wpE] at h ⊢; exact f _ h
  | .int z, ρ, _, _, f, h => by rw [wpE] at h ⊢; exact f _ h
  | .str s, ρ, _, _, f, h => by rw [wpE] at h ⊢; exact f _ h
  | .tup es, ρ, _, _, f, h => by rw [wpE] at h ⊢; exact wpXs.mono es ρ (fun ds h => ⟨h.1, f _ h.2⟩) h
  | .lst es, ρ, _, _, f, h => by rw [wpE] at h ⊢; exact wpXs.mono es ρ (fun ds h => ⟨h.1, f _ h.2⟩) h
  | .dnil t, ρ, _, _, f, h => by rw [wpE] at h ⊢; exact f _ h
  | .bin o a b, ρ, _, _, f, h => by rw [wpE] at h ⊢; exact wpE.mono a ρ (fun x h => wpE.mono b ρ (fun y h => h.mono f) h) h
  | .neg a, ρ, _, _, f, h => by rw [wpE] at h ⊢; exact wpE.mono a ρ (dI.mono fun _ h => f _ h) h
  | .nt a, ρ, _, _, f, h => by rw [wpE] at h ⊢; exact wpE.mono a ρ (dB.mono fun _ h => f _ h) h
  | .and es, ρ, _, _, f, h => by rw [wpE] at h ⊢; exact wpAnd.mono es ρ (fun _ h => f _ h) h
  | .or es, ρ, _, _, f, h => by rw [wpE] at h ⊢; exact wpOr.mono es ρ (fun _ h => f _ h) h
  | .ite c a b, ρ, _, _, f, h => by rw [wpE] at h ⊢; exact wpE.mono c ρ (dB.mono fun _ h => ite_mono (wpE.mono a ρ f) (wpE.mono b ρ f) h) h
  | .cmp o a b, ρ, _, _, f, h => by rw [wpE] at h ⊢; exact wpE.mono a ρ (fun x h => wpE.mono b ρ (fun y h => h.mono f) h) h
  | .cmp2 o o' a b c, ρ, _, _, f, h => by rw [wpE] at h ⊢; exact wpE.mono a ρ (fun x h => wpE.mono b ρ (fun y h => h.mono (dB.mono fun _ h => ite_mono (wpE.mono c ρ fun _ h => h.mono f) (f _) h)) h) h
  | .ix a i, ρ, _, _, f, h => by rw [wpE] at h ⊢; exact wpE.mono a ρ (fun x h => wpE.mono i ρ (fun y h => h.mono f) h) h
  | .sl a lo hi, ρ, _, _, f, h => by rw [wpE] at h ⊢; exact wpE.mono a ρ (fun x h => wpEo.mono lo ρ (fun l h => wpEo.mono hi ρ (fun _ h => h.mono f) h) h) h
  | .rev a, ρ, _, _, f, h => by rw [wpE] at h ⊢; exact wpE.mono a ρ (fun x h => h.mono f) h
  | .call g es, ρ, _, _, f, h => by
    rw [wpE] at h ⊢
    cases e : Γ g with
    | none => rw [e] at h; exact h
    | some p => obtain ⟨b, g'⟩ := p; rw [e] at h; exact wpXs.mono es ρ (fun ds h => hΓ _ _ _ e ds _ _ f h) h
  | .blt g es, ρ, _, _, f, h => by rw [wpE] at h ⊢; exact wpXs.mono es ρ (fun ds h => h.mono f) h
  | .seq t it, ρ, _, _, f, h => by rw [wpE] at h ⊢; exact wpIt.mono it ρ (fun ds h => h.mono f) h
  | .mth m o es, ρ, _, _, f, h => by rw [wpE] at h ⊢; exact wpE.mono o ρ (fun x h => ⟨h.1, wpXs.mono es ρ (fun ds h => h.mono f) h.2⟩) h
  | .isin a c, ρ, _, _, f, h => by rw [wpE] at h ⊢; exact wpE.mono a ρ (fun x h => h.mono f) h
  | .sg i k, ρ, _, _, f, h => by rw [wpE] at h ⊢; exact ⟨h.1, fun z => f _ (h.2 z)⟩
  | .comp p it ifs e own, ρ, _, _, f, h => by
    rw [wpE] at h ⊢
    exact wpIt.mono it ρ (fun ds h => wpMap.mono (fun d k k' q h => bindPat.mono (fun r h => wpAnd.mono ifs r (fun b h => ite_mono (wpE.mono e r fun y h => q _ h) (q _) h) h) h) (fun ys h => f _ h) h) h
theorem wpEo.mono : ∀ (e : Eo) (ρ : DEnv) {Q Q' : Option Int → Prop}, (∀ d, Q d → Q' d) → wpEo Γ e ρ Q → wpEo Γ e ρ Q'
  | .no, ρ, _, _, f, h => by rw [wpEo] at h ⊢; exact f _ h
  | .yes e, ρ, _, _, f, h => by rw [wpEo] at h ⊢; exact wpE.mono e ρ (dI.mono fun _ h => f _ h) h
theorem wpXs.mono : ∀ (e : Xs) (ρ : DEnv) {Q Q' : List D → Prop}, (∀ d, Q d → Q' d) → wpXs Γ e ρ Q → wpXs Γ e ρ Q'
  | .nil, ρ, _, _, f, h => by rw [wpXs] at h ⊢; exact f _ h
  | .cons false e es, ρ, _, _, f, h => by rw [wpXs] at h ⊢; exact wpE.mono e ρ (fun x h => wpXs.mono es ρ (fun ds h => f _ h) h) h
  | .cons true e es, ρ, _, _, f, h => by
    rw [wpXs] at h ⊢
    refine wpE.mono e ρ (fun x h => ?_) h
    split at h
    · exact wpXs.mono es ρ (fun ds h => f _ h) h
    · exact h.elim
theorem wpAnd.mono : ∀ (e : Xs) (ρ : DEnv) {Q Q' : Bool → Prop}, (∀ d, Q d → Q' d) → wpAnd Γ e ρ Q → wpAnd Γ e ρ Q'
  | .nil, ρ, _, _, f, h => by rw [wpAnd] at h ⊢; exact f _ h
  | .cons s e es, ρ, _, _, f, h => by rw [wpAnd] at h ⊢; exact wpE.mono e ρ (dB.mono fun _ h => ite_mono (wpAnd.mono es ρ f) (f _) h) h
theorem wpOr.mono : ∀ (e : Xs) (ρ : DEnv) {Q Q' : Bool → Prop}, (∀ d, Q d → Q' d) → wpOr Γ e ρ Q → wpOr Γ e ρ Q'
  | .nil, ρ, _, _, f, h => by rw [wpOr] at h ⊢; exact f _ h
  | .cons s e es, ρ, _, _, f, h => by rw [wpOr] at h ⊢; exact wpE.mono e ρ (dB.mono fun _ h => ite_mono (f _) (wpOr.mono es ρ f) h) h
theorem wpIt.mono : ∀ (e : It) (ρ : DEnv) {Q Q' : List D → Prop}, (∀ d, Q d → Q' d) → wpIt Γ e ρ Q → wpIt Γ e ρ Q'
  | .seq e, ρ, _, _, f, h => by
    rw [wpIt] at h ⊢
    refine wpE.mono e ρ (fun x h => ?_) h
    split at h
    · exact f _ h
    · exact h.elim
  | .rng1 a, ρ, _, _, f, h => by rw [wpIt] at h ⊢; exact wpE.mono a ρ (dI.mono fun _ h => ⟨h.1, f _ h.2⟩) h
  | .rng2 a b, ρ, _, _, f, h => by rw [wpIt] at h ⊢; exact wpE.mono a ρ (dI.mono fun _ h => wpE.mono b ρ (dI.mono fun _ h => ⟨h.1, h.2.1, f _ h.2.2⟩) h) h
  | .rng3 a b c, ρ, _, _, f, h => by rw [wpIt] at h ⊢; exact wpE.mono a ρ (dI.mono fun _ h => wpE.mono b ρ (dI.mono fun _ h => wpE.mono c ρ (dI.mono fun _ h => ⟨h.1, h.2.1, h.2.2.1, f _ h.2.2.2⟩) h) h) h
  | .enum e, ρ, _, _, f, h => by
    rw [wpIt] at h ⊢
    refine wpE.mono e ρ (fun x h => ?_) h
    split at h
    · exact f _ h
    · exact h.elim
  | .zip a b, ρ, _, _, f, h => by
    rw [wpIt] at h ⊢
    refine wpE.mono a ρ (fun x h => wpE.mono b ρ (fun y h => ?_) h) h
    split at h
    · exact f _ h
    · exact h.elim
  | .items e, ρ, _, _, f, h => by
    rw [wpIt] at h ⊢
    refine wpE.mono e ρ (fun x h => ?_) h
    cases x <;> first | exact f _ h | exact h
  | .keys e, ρ, _, _, f, h => by
    rw [wpIt] at h ⊢
    refine wpE.mono e ρ (fun x h => ?_) h
    cases x <;> first | exact f _ h | exact h
end
end
structure Kn.Le (K K' : Kn) : Prop where
  nx : ∀ r, K.nx r → K'.nx r
  rt : ∀ r, K.rt r → K'.rt r
  bk : ∀ r, K.bk r → K'.bk r
  ct : ∀ r, K.ct r → K'.ct r
theorem wpLoop.mono {f : D → DEnv → Kn → Prop} (hf : ∀ d ρ K K', Kn.Le K K' → f d ρ K → f d ρ K') : ∀ {ds : List D} {ρ : DEnv} {K K' : Kn}, Kn.Le K K' → wpLoop f ds ρ K → wpLoop f ds ρ K'
  | [], _, _, _, l, h => l.nx _ h
  | d :: ds, _, _, _, l, h => by
    rw [wpLoop] at h ⊢
    refine hf d _ _ _ ?_ h
    exact ⟨fun _ h => wpLoop.mono hf l h, l.rt, l.nx, fun _ h => wpLoop.mono hf l h⟩
section
variable {Γ : Gam} (hΓ : GMono Γ)
include hΓ
mutual
theorem wpS.mono : ∀ (s : Sm) (ρ : DEnv) {K K' : Kn}, Kn.Le K K' → wpS Γ s ρ K → wpS Γ s ρ K'
  | .asg i t e, ρ, _, _, l, h => by rw [wpS] at h ⊢; exact wpE.mono hΓ e ρ (fun _ h => l.nx _ h) h
  | .unp is e, ρ, _, _, l, h => by rw [wpS] at h ⊢; exact wpE.mono hΓ e ρ (fun _ h => bindPat.mono l.nx h) h
  | .par i t j u a b, ρ, _, _, l, h => by rw [wpS] at h ⊢; exact wpE.mono hΓ a ρ (fun _ h => wpE.mono hΓ b ρ (fun _ h => l.nx _ h) h) h
  | .par3 i t j u k v a b c, ρ, _, _, l, h => by rw [wpS] at h ⊢; exact wpE.mono hΓ a ρ (fun _ h => wpE.mono hΓ b ρ (fun _ h => wpE.mono hΓ c ρ (fun _ h => l.nx _ h) h) h) h
  | .setix i k e, ρ, _, _, l, h => by rw [wpS] at h ⊢; exact h.mono fun _ h => wpE.mono hΓ e ρ (fun _ h => wpE.mono hΓ k ρ (fun _ h => h.mono fun _ h => l.nx _ h) h) h
  | .setix2 i k k' e, ρ, _, _, l, h => by rw [wpS] at h ⊢; exact h.mono fun _ h => wpE.mono hΓ e ρ (fun _ h => wpE.mono hΓ k ρ (fun _ h => h.mono fun _ h => wpE.mono hΓ k' ρ (fun _ h => h.mono fun _ h => l.nx _ h) h) h) h
  | .app i e, ρ, _, _, l, h => by rw [wpS] at h ⊢; exact h.mono fun _ h => ⟨h.1, wpE.mono hΓ e ρ (fun _ h => h.mono fun _ h => l.nx _ h) h.2⟩
  | .ext i e, ρ, _, _, l, h => by rw [wpS] at h ⊢; exact h.mono fun _ h => wpE.mono hΓ e ρ (fun _ h => h.mono fun _ h => l.nx _ h) h
  | .ret e, ρ, _, _, l, h => by rw [wpS] at h ⊢; exact wpE.mono hΓ e ρ l.rt h
  | .iff c a b, ρ, _, _, l, h => by rw [wpS] at h ⊢; exact wpE.mono hΓ c ρ (dB.mono fun _ h => ite_mono (wpSs.mono a ρ l) (wpSs.mono b ρ l) h) h
  | .for_ p it b, ρ, _, _, l, h => by
    rw [wpS] at h ⊢
    refine wpIt.mono hΓ it ρ (fun ds h => ?_) h
    refine wpLoop.mono (fun d r K K' l h => ?_) l h
    exact bindPat.mono (fun r h => wpSs.mono b r l h) h
  | .whl c b, ρ, _, _, l, h => by
    rw [wpS] at h ⊢
    obtain ⟨I, h0, h1⟩ := h
    refine ⟨I, h0, fun m r i => wpE.mono hΓ c r (dB.mono fun _ h => ite_mono (fun h => ?_) (l.nx _) h) (h1 m r i)⟩
    refine wpSs.mono b r ?_ h
    exact ⟨fun _ h => h, l.rt, l.nx, fun _ h => h⟩
  | .brk, ρ, _, _, l, h => by rw [wpS] at h ⊢; exact l.bk _ h
  | .cont, ρ, _, _, l, h => by rw [wpS] at h ⊢; exact l.ct _ h
  | .exp e, ρ, _, _, l, h => by rw [wpS] at h ⊢; exact wpE.mono hΓ e ρ (fun _ h => l.nx _ h) h
  | .sset i k e, ρ, _, _, l, h => by rw [wpS] at h ⊢; exact ⟨h.1, wpE.mono hΓ e ρ (dI.mono fun _ h => ⟨h.1, l.nx _ h.2⟩) h.2⟩
  | .drain i, ρ, _, _, l, h => by rw [wpS] at h ⊢; exact ⟨h.1, l.nx _ h.2⟩
  | .appPop i j e, ρ, _, _, l, h => by rw [wpS] at h ⊢; exact h.mono fun _ h => ⟨h.1, h.2.mono fun _ h => ⟨h.1, wpE.mono hΓ e ρ (fun _ h => h.mono fun _ _ h => h.mono fun _ h => l.nx _ h) h.2⟩⟩
  | .fail, ρ, _, _, l, h => by rw [wpS] at h; exact h.elim
theorem wpSs.mono : ∀ (s : Ss) (ρ : DEnv) {K K' : Kn}, Kn.Le K K' → wpSs Γ s ρ K → wpSs Γ s ρ K'
  | .nil, ρ, _, _, l, h => by rw [wpSs] at h ⊢; exact l.nx _ h
  | .cons s r, ρ, _, _, l, h => by
    rw [wpSs] at h ⊢
    refine wpS.mono s ρ ?_ h
    exact ⟨fun _ h => wpSs.mono r _ l h, l.rt, l.bk, l.ct⟩
  | .frz i r, ρ, _, _, l, h => by rw [wpSs] at h ⊢; exact wpSs.mono r ρ l h
  | .drn i j r, ρ, _, _, l, h => by rw [wpSs] at h ⊢; exact ⟨h.1, h.2.1, wpSs.mono r _ l h.2.2⟩
end
end
end DL
/-! DL, part Ca: making tuples that are known to their objects. -/
namespace DL
open PySem PySem.Spec PyProof.Rows L2
theorem GT.sq {K : PySem.W.Frag} {H : Hp} {a : Addr} {vs : List V} (h : GT H a vs) : SqT K H a vs := let ⟨_, _, e⟩ := h; .inl (.inr ⟨_, e⟩)
/-- what is wanted of a new tuple -/
def NewT (H : Hp) (Q : VK) (vs : List V) : Prop := ∀ p o, H p = none → o.dict = none → Q (.ref p) (upd H p (.frz o (.tup vs)))
theorem tuple_mulSame (l : Addr) (items : Array Value) (n : Nat) (dd : Option Addr) (sl : Array (Option Value)) (x : Int) (u : Tok) (c0 : (decide (x < -(2 ^ 63)) || decide (x ≥ 2 ^ 63)) = false) (c1 : (items.isEmpty || x == 1) = true) :
    Meets (Builtin.«tuple.__mul__» ⟨[.ref l, .int x u], []⟩) (fun _ R s => s.heap.get? l = some { cls := .type "tuple", dict := dd, data := .seq items n, slots := sl } ∧
      R (.ok (.ret (Value.ref l))) s) :=
  .of_wp fun prog w A R s h => by
    obtain ⟨hp, g, d, tk, os⟩ := s
    obtain ⟨hl, h⟩ := h
    have f1 := AutoSeq1.idx_int
    wp_walk using wpAny_loadPart' hl
    repeat (first
      | (refine wpAny_ite_false (decide_eq_false (by rw [c0]; exact Bool.false_ne_true)) ?_; wp_walk using wpAny_loadPart' hl)
      | (refine wpAny_ite_true (decide_eq_true c1) ?_; wp_walk using wpAny_loadPart' hl))
    exact ⟨_, rfl, h⟩
theorem tuple_mulNil (l : Addr) (items : Array Value) (n : Nat) (dd : Option Addr) (sl : Array (Option Value)) (x : Int) (u : Tok) (c0 : (decide (x < -(2 ^ 63)) || decide (x ≥ 2 ^ 63)) = false) (c1 : (items.isEmpty || x == 1) = false) (c2 : (decide (x ≤ 0) || items.isEmpty) = true) :
    Meets (Builtin.«tuple.__mul__» ⟨[.ref l, .int x u], []⟩) (fun _ R s => s.heap.get? l = some { cls := .type "tuple", dict := dd, data := .seq items n, slots := sl } ∧
      R (.ok (.ret (Value.ref s.heap.objs.size))) { s with heap := s.heap.push { cls := Value.type "tuple", data := Data.seq #[] }, toks := s.toks }) :=
  .of_wp fun prog w A R s h => by
    obtain ⟨hp, g, d, tk, os⟩ := s
    obtain ⟨hl, h⟩ := h
    have f1 := AutoSeq1.idx_int
    wp_walk using wpAny_loadPart' hl
    repeat (first
      | (refine wpAny_ite_false (decide_eq_false (by rw [c0]; exact Bool.false_ne_true)) ?_; wp_walk using wpAny_loadPart' hl)
      | (refine wpAny_ite_false (decide_eq_false (by rw [c1]; exact Bool.false_ne_true)) ?_; wp_walk using wpAny_loadPart' hl)
      | (refine wpAny_ite_true (decide_eq_true c2) ?_; wp_walk using wpAny_loadPart' hl))
    exact ⟨_, rfl, h⟩
section
variable {X : Cx} {pins : List (Addr × Obj)} {σ : L2.St} {H : Hp} {s : Shared}
theorem laidT {h' : Heap} {tk : Nat} {us : List Value} {vs : List V} {Q : VK} (I : Inv X pins σ H s) (kp : ∀ b u, s.heap.get? b = some u → h'.get? b = some u) (rv : Vals vs us) (hz : vs.length ≤ sizeLine) (q : NewT H Q vs) :
    EP X pins σ Q (.ref h'.objs.size) { s with heap := h'.push { cls := .type "tuple", data := .seq us.toArray }, toks := tk } := by
  have I1 : Inv X pins σ H { s with heap := h', toks := tk } := I.kept kp
  have hf : H h'.objs.size = none := I1.hok.fresh (Nat.le_refl _)
  have e := Heap.get?_push_size h' (o := { cls := .type "tuple", data := .seq us.toArray }) rfl
  exact ⟨.ref h'.objs.size, _, I1.laid (t' := tk) (fun b u e => Heap.get?_push_of_some _ e) (Nat.le_refl _) (show ObjOk X.prog X.w _ _ _ (.frz _ (.tup vs)) from ⟨e, hz, us, rv, ⟨_, e, rfl, _, rfl⟩⟩), rfl, q _ _ hf rfl⟩
theorem laidT0 {us : List Value} {vs : List V} {Q : VK} (I : Inv X pins σ H s) (rv : Vals vs us) (hz : vs.length ≤ sizeLine) (q : NewT H Q vs) :
    EP X pins σ Q (.ref s.heap.objs.size) { s with heap := s.heap.push { cls := .type "tuple", data := .seq us.toArray } } := laidT (tk := s.toks) I (fun _ _ e => e) rv hz q
def tTupG (t : TA) : TE := fun σ H Q => t σ H fun xs H1 => xs.length ≤ sizeLine ∧ NewT H1 Q xs
theorem pe_tupG {es : List Expr} {t : TA} {x1} {pos : Pos} (h : PA X es t) : PE X (.Tuple es x1 pos) (tTupG t) := by
  refine ⟨fun pins s σ H Q I hq => ?_⟩
  exact wpAny_Tuple_spliced (thn (h.run pos pins s σ H _ I hq) fun us s1 ⟨xs, H1, I1, r, z, q⟩ => ⟨by rw [← r.length]; exact z, laidT0 I1 r z q⟩)
def rCatG (K : PySem.W.Frag) : R2 := fun x y H Q => ∃ a b xs ys, x = .ref a ∧ y = .ref b ∧ SqT K H a xs ∧ SqT K H b ys ∧ xs.length + ys.length ≤ sizeLine ∧ (xs = [] → Q (.ref b) H) ∧ (xs ≠ [] → ys = [] → Q (.ref a) H) ∧ (xs ≠ [] → ys ≠ [] → NewT H Q (xs ++ ys))
theorem op_catG : OpR X (binaryOp .Add) (rCatG X.K) := by
  intro pins s σ H x y v u Q I rx ry ⟨a, b, xs, ys, ex, ey, ha, hb, hz, q0, q1, q2⟩
  subst ex ey
  cases rx; cases ry
  obtain ⟨its, r1, p1, _⟩ := I.tuple ha
  obtain ⟨its2, r2, p2, _⟩ := I.tuple hb
  by_cases hx : xs = []
  · subst hx
    cases r1
    exact cat_tup0 p1 p2 ⟨.ref b, H, I, rfl, q0 rfl⟩
  · refine HT.cat_tup p1 p2 (fun z => hx (r1.nil_iff.mp z)) (fun z => ⟨.ref a, H, I, rfl, q1 hx (r2.nil_iff.mp z)⟩) (fun z => ?_) (by rw [← r1.length, ← r2.length]; exact hz)
    exact laidT0 I (r1.append r2) (by rw [List.length_append]; exact hz) (q2 hx fun w => z (r2.nil_iff.mpr w))
def rSlG (K : PySem.W.Frag) : V → Option Int → Option Int → Hp → VK → Prop := fun x lo hi H Q => ∃ a xs, x = .ref a ∧ SqT K H a xs ∧
  (HT.sIx xs.length 0 lo = 0 ∧ HT.sIx xs.length xs.length hi = xs.length → Q (.ref a) H) ∧ (¬ (HT.sIx xs.length 0 lo = 0 ∧ HT.sIx xs.length xs.length hi = xs.length) → NewT H Q (cutV xs lo hi))
theorem sl_tupG : SlR X (rSlG X.K) := by
  intro pins s σ H x v vl vu lo hi sl Q I rx hs pl pu ⟨a, xs, ex, hx, q1, q2⟩
  subst ex
  cases rx
  obtain ⟨its, r, ht, hz⟩ := I.tuple hx
  have hlen : its.toArray.size = xs.length := by rw [List.size_toArray]; exact r.length.symm
  refine ⟨"tuple", _, PyProof.Rows.slot_tuple_getitem.lookup, ht.typeIs, ?_⟩
  by_cases hw : HT.sIx xs.length 0 lo = 0 ∧ HT.sIx xs.length xs.length hi = xs.length
  · exact getItem_tuple_whole ht hs pl pu (by rw [hlen]; exact hw) ⟨.ref a, H, I, rfl, q1 hw⟩
  · refine HT.getItem_tuple_cut ht hs pl pu (by rw [hlen]; exact hw) ?_ (by rw [hlen]; exact hz)
    rw [hlen]
    exact laidT0 I ((r.drop _).take _) (Nat.le_trans (cutV_length xs lo hi) hz) (q2 hw)
def rTupOf (K : PySem.W.Frag) : List V → Hp → VK → Prop := fun xs H Q => ∃ p ys, xs = [.ref p] ∧ ((SqL K H p ys ∧ NewT H Q ys) ∨ (SqT K H p ys ∧ Q (.ref p) H))
theorem call_tupG : CallR X (.type "tuple") (rTupOf X.K) := by
  intro pins s σ H xs us Q I r ⟨p, ys, ex, h⟩
  subst ex
  obtain ⟨u, rfl, rx⟩ := vals1 r
  cases rx
  rcases h with ⟨hq, q⟩ | ⟨hq, q⟩
  · obtain ⟨its, r', pl, hz⟩ := I.list hq
    have hlen := r'.length
    exact call_tuple_list pl.isList (fun h' kp => laidT (tk := s.toks) I kp r' hz q) (by simp only [List.size_toArray]; omega)
  · obtain ⟨its, r', pl, hz⟩ := I.tuple hq
    exact call_tuple_same pl ⟨.ref p, H, I, rfl, q⟩
def rRepG (K : PySem.W.Frag) : R2 := fun x y H Q => ∃ l k xs, x = .ref l ∧ y = .int k ∧ SqT K H l xs ∧ 0 ≤ k ∧ k ≤ 1000 ∧ xs.length ≤ 1000 ∧ ((xs = [] ∨ k = 1) → Q (.ref l) H) ∧ (xs ≠ [] → k = 0 → NewT H Q []) ∧ (xs ≠ [] → 2 ≤ k → NewT H Q (List.replicate k.toNat xs).flatten)
theorem op_repG : OpR X (binaryOp .Mult) (rRepG X.K) := by
  intro pins s σ H x y v u Q I rx ry ⟨l, k, xs, ex, ey, hT, h1, h2, hz, q0, q1, q2⟩
  subst ex ey
  cases rx
  obtain ⟨t, rfl⟩ := ry
  obtain ⟨its, r, ⟨⟨cls, dd, data, sl⟩, ho, hc, n, hd⟩, hs⟩ := I.tuple hT
  simp only at hc hd
  subst hc hd
  have hle : its.length = xs.length := r.length.symm
  have c0 : (decide (k < -(2 ^ 63)) || decide (k ≥ 2 ^ 63)) = false := by simp; omega
  have fin : ∀ {Q' : Value → Shared → Prop} {E : Value → Shared → Prop}, wpAny (model X.prog X.w) X.A (call (.builtin "tuple.__mul__") [.ref l, .int k t]) Q' E s → wpAny (model X.prog X.w) X.A (binaryOp .Mult (.ref l) (.int k t)) Q' E s := fun hq =>
    wpAny_binaryOp_repeat_ref (T := "tuple") (U := "int") (by decide) ⟨_, ho, rfl⟩ (fun s' => typeIs_int s' k t) noFill_tuple_mul PySem.F.fills_int_mul PySem.F.slot_int_rmul repeat_tuple PySem.F.slot_int_index.lookup
      (call_meets PySem.F.slot_int_rmul (typeIs_int s k t) PySem.F.entry_int_rmul (PySem.F.args_int_rmul_2 _ _) (int_rmul_tuple k t l its.toArray n dd sl) ⟨ho, rfl, ⟨_, ho, rfl⟩, hq⟩)
  by_cases hn : xs = [] ∨ k = 1
  · have c1 : (its.toArray.isEmpty || k == 1) = true := by
      rcases hn with hn | hn
      · have : its = [] := List.eq_nil_of_length_eq_zero (by rw [hle, hn]; rfl)
        subst this; rfl
      · subst hn; simp
    exact fin (call_meets PySem.F.slot_tuple_mul ⟨_, ho, rfl⟩ PySem.F.entry_tuple_mul (PySem.F.args_tuple_mul_2 _ _) (tuple_mulSame l its.toArray n dd sl k t c0 c1) ⟨ho, ⟨.ref l, H, I, rfl, q0 hn⟩⟩)
  have hne : xs ≠ [] := fun z => hn (.inl z)
  have hk1 : k ≠ 1 := fun z => hn (.inr z)
  have hni : its ≠ [] := fun e => hne (List.eq_nil_of_length_eq_zero (by rw [← hle, e]; rfl))
  have hi : its.toArray.isEmpty = false := by
    cases its with
    | nil => exact absurd rfl hni
    | cons a b => rfl
  have c1 : (its.toArray.isEmpty || k == 1) = false := by rw [hi]; simp; omega
  by_cases hk : k = 0
  · have c2 : (decide (k ≤ 0) || its.toArray.isEmpty) = true := by rw [hk]; rfl
    exact fin (call_meets PySem.F.slot_tuple_mul ⟨_, ho, rfl⟩ PySem.F.entry_tuple_mul (PySem.F.args_tuple_mul_2 _ _) (tuple_mulNil l its.toArray n dd sl k t c0 c1 c2) ⟨ho, laidT0 I (us := []) (vs := []) .nil (Nat.zero_le _) (q1 hne hk)⟩)
  have h3 : 2 ≤ k := by omega
  have a0 : ((xs.length : Nat) : Int) * k ≤ 1000 * k := Int.mul_le_mul_of_nonneg_right (by omega) (by omega)
  have a1 : k.toNat * xs.length ≤ 1000 * 1000 := Nat.mul_le_mul (by omega) hz
  have hm : ((its.toArray.size : Nat) : Int) * k ≤ 1000000 := by rw [List.size_toArray, hle]; omega
  have zl := sizeLine_eq
  have flen : (List.replicate k.toNat its).flatten.length ≤ sizeLine := by rw [PyProof.Rows.lm_len_rep_flat, hle]; omega
  have flen' : (List.replicate k.toNat xs).flatten.length ≤ sizeLine := by rw [PyProof.Rows.lm_len_rep_flat]; omega
  have c2 : (decide (k ≤ 0) || its.toArray.isEmpty) = false := by rw [hi]; simp; omega
  have c4 : Builtin.Tuple.tupleTooMany (((its.toArray.size : Nat) : Int) * k) = false := by
    unfold Builtin.Tuple.tupleTooMany
    exact decide_eq_false (by omega)
  refine fin (call_meets PySem.F.slot_tuple_mul ⟨_, ho, rfl⟩ PySem.F.entry_tuple_mul (PySem.F.args_tuple_mul_2 _ _) (tuple_mulW l its.toArray n dd sl k t c0 c1 c2 (by omega) c4 (by rw [size_rep, List.size_toArray]; exact flen)) ⟨ho, ?_⟩)
  rw [size_rep]
  exact laidT0 I (r.rep k.toNat) flen' (q2 hne h3)
end
end DL
/-! DL, part Cb: dicts with tuples as keys. -/
namespace DL
open PySem PySem.Spec PyProof.Rows L2
section
variable {X : Cx} {pins : List (Addr × Obj)} {σ : L2.St} {H : Hp} {s : Shared} {ds : Addr} {L : Addr → Prop}
mutual
theorem Rep.nk (I : Inv X pins σ H s) : ∀ (k : NestedKey) (v : V) (u : Value), Rep ds L H (ofNK k) v → RelV v u → NestedIs s.heap k u
  | .none, _, _, h, r => by rw [ofNK] at h; cases h; cases r; exact .none
  | .num i, _, _, h, r => by rw [ofNK] at h; cases h; obtain ⟨t, rfl⟩ := r; exact .int _ _
  | .text x, _, _, h, r => by rw [ofNK] at h; cases h; obtain ⟨t, rfl⟩ := r; exact .text _ _
  | .tup ks, _, _, h, r => by
    rw [ofNK] at h
    cases h with
    | tup h1 h2 h3 =>
    cases r
    obtain ⟨its, rv, ⟨o, e, c, n, d⟩, _⟩ := I.tuple (GT.sq (K := X.K) h1)
    exact .tup e c d (RepL.nk I ks _ _ h3 (by simpa using rv))
theorem RepL.nk (I : Inv X pins σ H s) : ∀ (ks : List NestedKey) (vs : List V) (us : List Value), RepL ds L H (ofNKs ks) vs → Vals vs us → NestedAll s.heap ks us
  | [], _, _, h, r => by rw [ofNKs] at h; cases h; cases r; exact .nil
  | k :: ks, _, _, h, r => by
    rw [ofNKs] at h
    cases h with
    | cons h1 h2 =>
    cases r with
    | cons r1 r2 => exact .cons (Rep.nk I k _ _ h1 r1) (RepL.nk I ks _ _ h2 r2)
end
mutual
/-- a key is read whatever L -/
theorem NkRep.any {L' : Addr → Prop} : ∀ (q : NestedKey) (v : V), Rep ds L H (ofNK q) v → Rep ds L' H (ofNK q) v
  | .none, _, h => by rw [ofNK] at h ⊢; cases h; exact .non
  | .num _, _, h => by rw [ofNK] at h ⊢; cases h; exact .int _
  | .text _, _, h => by rw [ofNK] at h ⊢; cases h; exact .str _
  | .tup ks, _, h => by
    rw [ofNK] at h ⊢
    cases h with
    | tup h1 h2 h3 => exact .tup h1 h2 (NksRep.any ks _ h3)
theorem NksRep.any {L' : Addr → Prop} : ∀ (qs : List NestedKey) (vs : List V), RepL ds L H (ofNKs qs) vs → RepL ds L' H (ofNKs qs) vs
  | [], _, h => by rw [ofNKs] at h ⊢; cases h; exact .nil
  | q :: qs, _, h => by
    rw [ofNKs] at h ⊢
    cases h with
    | cons h1 h2 => exact .cons (NkRep.any q _ h1) (NksRep.any qs _ h2)
end
abbrev TRel (p : NestedKey × Addr × V) (q : NestedKey × Addr × Value) : Prop := p.1 = q.1 ∧ p.2.1 = q.2.1 ∧ RelV p.2.2 q.2.2
theorem TRel.at : ∀ {kvs : List (NestedKey × Addr × V)} {xs : List (NestedKey × Addr × Value)} (k : NestedKey), Paired TRel kvs xs → (tAt kvs k = none ∧ atKey xs k = none) ∨ ∃ b v u, tAt kvs k = some (b, v) ∧ atKey xs k = some (b, u) ∧ RelV v u
  | _, _, k, .nil => .inl ⟨rfl, rfl⟩
  | _, _, k, @Paired.cons _ _ _ ⟨k', b, v⟩ ⟨k2, b2, u⟩ kvs xs ⟨h1, h2, h3⟩ t => by
    cases h1; cases h2
    by_cases e : k' = k
    · exact .inr ⟨b, v, u, by simp [tAt, e], by simp [atKey, e], h3⟩
    · have q := TRel.at k t
      have e1 : tAt ((k', b, v) :: kvs) k = tAt kvs k := by simp [tAt, e]
      have e2 : atKey ((k', b, u) :: xs) k = atKey xs k := by simp [atKey, e]
      rw [e1, e2]; exact q
theorem TRel.any : ∀ {kvs : List (NestedKey × Addr × V)} {xs : List (NestedKey × Addr × Value)} (k : NestedKey), Paired TRel kvs xs → (kvs.any fun e => decide (e.1 = k)) = (atKey xs k).isSome
  | _, _, k, .nil => rfl
  | _, _, k, @Paired.cons _ _ _ ⟨k', b, v⟩ ⟨k2, b2, u⟩ kvs xs ⟨h1, h2, h3⟩ t => by
    cases h1; cases h2
    by_cases e : k' = k
    · simp [atKey, e]
    · have q := TRel.any k t
      have e2 : atKey ((k', b, u) :: xs) k = atKey xs k := by simp [atKey, e]
      rw [e2, ← q]; simp [e]
theorem TRel.repl {k : NestedKey} {v : V} {u : Value} (r : RelV v u) : ∀ {kvs : List (NestedKey × Addr × V)} {xs : List (NestedKey × Addr × Value)}, Paired TRel kvs xs → Paired TRel (kvs.map fun e => if e.1 = k then (e.1, e.2.1, v) else e) (xs.map (putAt k u))
  | _, _, .nil => .nil
  | _, _, @Paired.cons _ _ _ ⟨k', b, v'⟩ ⟨k2, b2, u'⟩ kvs xs ⟨h1, h2, h3⟩ t => by
    cases h1; cases h2
    rw [List.map_cons, List.map_cons]
    refine .cons ?_ (TRel.repl r t)
    by_cases e : k' = k
    · simp only [putAt, e, if_true]; exact ⟨rfl, rfl, r⟩
    · simp only [putAt, e, if_false]; exact ⟨rfl, rfl, h3⟩
theorem pd_append {α β : Type} {F : α → β → Prop} : ∀ {a b : List α} {c d : List β}, Paired F a c → Paired F b d → Paired F (a ++ b) (c ++ d)
  | _, _, _, _, .nil, h => h
  | _, _, _, _, .cons h t, q => .cons h (pd_append t q)
theorem TRel.put {kvs : List (NestedKey × Addr × V)} {xs : List (NestedKey × Addr × Value)} (k : NestedKey) (b : Addr) {v : V} {u : Value} (h : Paired TRel kvs xs) (r : RelV v u) : Paired TRel (tPut kvs k b v) (storedH xs k b u) := by
  unfold tPut storedH
  rw [TRel.any k h]
  split
  · exact TRel.repl r h
  · exact pd_append h (.cons ⟨rfl, rfl, r⟩ .nil)
theorem tPut_length (kvs : List (NestedKey × Addr × V)) (k : NestedKey) (b : Addr) (v : V) : (tPut kvs k b v).length ≤ kvs.length + 1 := by
  unfold tPut
  split
  · rw [List.length_map]; omega
  · rw [List.length_append]; simp
/-- a key's facts that a dict keeps -/
structure KOk (k : NestedKey) : Prop where
  nw : ∀ w w', k.hash w = k.hash w'
  dp : k.depth ≤ 8
theorem keyT_ok {d : D} {k : NestedKey} (h : keyT d = some k) : KOk k := let ⟨_, _, h3, h4, _⟩ := keyT_of h; ⟨h3, h4⟩
/-- from the object to the library's dict -/
theorem tab_at (I : Inv X pins σ H s) {a : Addr} {kvs : List (NestedKey × Addr × V)} {xs : List (NestedKey × D)} (h : Rd H a (tabO a kvs)) (rt : RepT ds L H xs kvs) :
    (a == sysModules) = false ∧ (∀ p ∈ kvs, KOk p.1) ∧ ∃ us, Paired TRel kvs us ∧ s.heap.DictOfH (nestedKind X.prog X.w) a us := by
  obtain ⟨lo, o, es, ep, ho, hx, hd, pr, nd⟩ := (show ObjOk X.prog X.w H s.heap a (tabO a kvs) from h.ok I.hok).1
  have go : ∀ {kvs : List (NestedKey × Addr × V)} {xs : List (NestedKey × D)} {es : List DictEntry}, RepT ds L H xs kvs → Paired (fun (p : NestedKey × Addr × V) (en : DictEntry) => (∀ w, en.hash = p.1.hash w) ∧ p.1.depth ≤ 8 ∧ en.key = .ref p.2.1 ∧ RelV p.2.2 en.val) kvs es →
      (∀ p ∈ kvs, KOk p.1) ∧ ∃ us : List (NestedKey × Addr × Value), Paired TRel kvs us ∧ es = us.map (entryOfKey (nestedKind X.prog X.w)) ∧ (∀ x ∈ us, (nestedKind X.prog X.w).is s.heap x.1 x.2.1) ∧ us.map (·.1) = kvs.map (·.1) := by
    intro kvs xs
    induction xs generalizing kvs with
    | nil => intro es r p; cases r; cases p; exact ⟨(fun _ h => nomatch h), [], .nil, rfl, (fun _ h => nomatch h), rfl⟩
    | cons kd xs ih =>
      intro es r p
      cases r with
      | @cons k b d v _ kvs z q t =>
      cases p with
      | @cons _ en _ es h p =>
      obtain ⟨hh, hd, hk, hv⟩ := h
      obtain ⟨a1, us, a2, a3, a4, a5⟩ := ih t p
      refine ⟨fun p hp => ?_, (k, b, en.val) :: us, .cons ⟨rfl, rfl, hv⟩ a2, ?_, fun x hx => ?_, by simp [a5]⟩
      · rcases List.mem_cons.mp hp with rfl | hp
        · exact ⟨fun w w' => by rw [← hh w, ← hh w'], hd⟩
        · exact a1 p hp
      · rw [List.map_cons, ← a3]
        congr 1
        cases en
        simp only [entryOfKey] at hh hk ⊢
        rw [hh X.w, hk]
        rfl
      · rcases List.mem_cons.mp hx with rfl | hx
        · exact ⟨Rep.nk I k _ _ z rfl, hd⟩
        · exact a4 x hx
  obtain ⟨a1, us, a2, a3, a4, a5⟩ := go rt pr
  exact ⟨lo, a1, us, a2, o, es, ep, ho, hx, hd, a3, a4, by rw [a5]; exact nd⟩
/-- and back -/
theorem tab_new {h' : Heap} {a : Addr} {kvs : List (NestedKey × Addr × V)} {us : List (NestedKey × Addr × Value)} (lo : (a == sysModules) = false) (ok : ∀ p ∈ kvs, KOk p.1) (r : Paired TRel kvs us) (dd : h'.DictOfH (nestedKind X.prog X.w) a us) : TabE h' a kvs := by
  obtain ⟨o, es, ep, ho, hx, hd, he, _, hn⟩ := dd
  have go : ∀ {kvs : List (NestedKey × Addr × V)} {us : List (NestedKey × Addr × Value)}, (∀ p ∈ kvs, KOk p.1) → Paired TRel kvs us →
      Paired (fun (p : NestedKey × Addr × V) (en : DictEntry) => (∀ w, en.hash = p.1.hash w) ∧ p.1.depth ≤ 8 ∧ en.key = .ref p.2.1 ∧ RelV p.2.2 en.val) kvs (us.map (entryOfKey (nestedKind X.prog X.w))) ∧ us.map (·.1) = kvs.map (·.1) := by
    intro kvs us ok r
    induction r with
    | nil => exact ⟨.nil, rfl⟩
    | @cons p q kvs us h t ih =>
      obtain ⟨a1, a2⟩ := ih fun p hp => ok p (List.mem_cons_of_mem _ hp)
      obtain ⟨h1, h2, h3⟩ := h
      have k := ok p List.mem_cons_self
      refine ⟨.cons ⟨fun w => ?_, k.dp, ?_, h3⟩ a1, by rw [List.map_cons, List.map_cons, a2, h1]⟩
      · show q.1.hash X.w = p.1.hash w
        rw [← h1]; exact k.nw _ _
      · show Value.ref q.2.1 = .ref p.2.1
        rw [h2]
  obtain ⟨a1, a2⟩ := go ok r
  exact ⟨lo, o, es, ep, ho, hx, hd, by rw [he]; exact a1, by rw [← a2]; exact hn⟩
theorem tab_ext {P : Program} {w : World} {H : Hp} {h : Heap} {a : Addr} {kvs : List (NestedKey × Addr × V)} (t : TabE h a kvs) : ObjOk P w H h a (tabO a kvs) := by
  refine ⟨t, ?_, fun h1 h2 t k => ?_⟩
  · obtain ⟨_, o, _, _, e, _⟩ := t; exact ⟨o, e⟩
  · obtain ⟨lo, o, es, ep, e, r⟩ := t; exact ⟨lo, o, es, ep, k _ e, r⟩
variable {A : Around} {E : Value → Shared → Prop} {a : Addr} {kvs : List (NestedKey × Addr × V)} {xs : List (NestedKey × D)} {k : NestedKey} {y : V} {u : Value}
theorem room9 (hu : A.units + 64 < cLine) : (nestedKind X.prog X.w).room A.in1 := by
  show A.in1.units + 8 < cLine
  have : A.in1.units = A.units + 1 := rfl
  omega
/-- d[y] -/
theorem tb_get {b : Addr} {v : V} {Q : Value → Shared → Prop} (hu : A.units + 64 < cLine) (I : Inv X pins σ H s) (h : Rd H a (tabO a kvs)) (rt : RepT ds L H xs kvs) (z : Rep ds L H (ofNK k) y) (ok : KOk k) (ks : ∃ l, k = .tup l) (ry : RelV y u) (e : tAt kvs k = some (b, v))
    (hQ : ∀ w' s', Inv X pins σ H s' → RelV v w' → Q w' s') : wpAny (model X.prog X.w) A (getItem (.ref a) u) Q E s := by
  obtain ⟨lo, oks, us, r, dd⟩ := tab_at I h rt
  have nk := Rep.nk I k y u z ry
  obtain ⟨l, rfl⟩ := ks
  cases nk with
  | tup h1 h2 h3 h4 =>
  rcases TRel.at (.tup l) r with ⟨q1, q2⟩ | ⟨b', v', u', q1, q2, q3⟩
  · rw [q1] at e; cases e
  · rw [q1] at e; cases e
    exact wpAny_getItem_heap (knd := nestedKind X.prog X.w) (room9 hu) ⟨.tup h1 h2 h3 h4, ok.dp⟩ dd q2 (hQ _ _ (I.tok _) q3)
/-- the key read as anything may be -/
theorem tb_get_any {L' : Addr → Prop} {b : Addr} {v : V} {Q : Value → Shared → Prop} (hu : A.units + 64 < cLine) (I : Inv X pins σ H s) (h : Rd H a (tabO a kvs)) (rt : RepT ds L H xs kvs) (z : Rep ds L' H (ofNK k) y) (ok : KOk k) (ks : ∃ l, k = .tup l) (ry : RelV y u) (e : tAt kvs k = some (b, v))
    (hQ : ∀ w' s', Inv X pins σ H s' → RelV v w' → Q w' s') : wpAny (model X.prog X.w) A (getItem (.ref a) u) Q E s :=
  tb_get hu I h rt (NkRep.any k y z) ok ks ry e hQ
theorem tb_in {Q : Value → Shared → Prop} (hu : A.units + 64 < cLine) (I : Inv X pins σ H s) (h : Rd H a (tabO a kvs)) (rt : RepT ds L H xs kvs) (z : Rep ds L H (ofNK k) y) (ok : KOk k) (ks : ∃ l, k = .tup l) (ry : RelV y u)
    (hQ : ∀ s', Inv X pins σ H s' → Q (.bool (dGet xs k).isSome) s') : wpAny (model X.prog X.w) A (compareOp .In u (.ref a)) Q E s := by
  obtain ⟨lo, oks, us, r, dd⟩ := tab_at I h rt
  have nk := Rep.nk I k y u z ry
  obtain ⟨l, rfl⟩ := ks
  cases nk with
  | tup h1 h2 h3 h4 =>
  refine wpAny_in_heap (knd := nestedKind X.prog X.w) (room9 hu) ⟨.tup h1 h2 h3 h4, ok.dp⟩ lo dd ?_
  have e : (atKey us (NestedKey.tup l)).isSome = (dGet xs (NestedKey.tup l)).isSome := by
    rcases TRel.at (.tup l) r with ⟨q1, q2⟩ | ⟨b', v', u', q1, q2, q3⟩ <;> rcases rt.get (.tup l) with ⟨p1, p2⟩ | ⟨d, b2, v2, p1, p2, p3⟩
    · rw [q2, p1]; rfl
    · rw [q1] at p2; cases p2
    · rw [q1] at p2; cases p2
    · rw [q2, p1]; rfl
  rw [e]
  exact hQ _ (I.tok _)
theorem tb_notIn {Q : Value → Shared → Prop} (hu : A.units + 64 < cLine) (I : Inv X pins σ H s) (h : Rd H a (tabO a kvs)) (rt : RepT ds L H xs kvs) (z : Rep ds L H (ofNK k) y) (ok : KOk k) (ks : ∃ l, k = .tup l) (ry : RelV y u)
    (hQ : ∀ s', Inv X pins σ H s' → Q (.bool (!(dGet xs k).isSome)) s') : wpAny (model X.prog X.w) A (compareOp .NotIn u (.ref a)) Q E s := by
  obtain ⟨lo, oks, us, r, dd⟩ := tab_at I h rt
  have nk := Rep.nk I k y u z ry
  obtain ⟨l, rfl⟩ := ks
  cases nk with
  | tup h1 h2 h3 h4 =>
  refine wpAny_notIn_heap (knd := nestedKind X.prog X.w) (room9 hu) ⟨.tup h1 h2 h3 h4, ok.dp⟩ lo dd ?_
  have e : (atKey us (NestedKey.tup l)).isSome = (dGet xs (NestedKey.tup l)).isSome := by
    rcases TRel.at (.tup l) r with ⟨q1, q2⟩ | ⟨b', v', u', q1, q2, q3⟩ <;> rcases rt.get (.tup l) with ⟨p1, p2⟩ | ⟨d, b2, v2, p1, p2, p3⟩
    · rw [q2, p1]; rfl
    · rw [q1] at p2; cases p2
    · rw [q1] at p2; cases p2
    · rw [q2, p1]; rfl
  rw [e]
  exact hQ _ (I.tok _)
/-- d.get(y), d.get(y, x) -/
theorem tb_get1 {Q : Value → Shared → Prop} (hu : A.units + 64 < cLine) (I : Inv X pins σ H s) (h : Rd H a (tabO a kvs)) (rt : RepT ds L H xs kvs) (z : Rep ds L H (ofNK k) y) (ok : KOk k) (ks : ∃ l, k = .tup l) (ry : RelV y u)
    (hQ : ∀ v w' s', Inv X pins σ H s' → RelV v w' → Rep ds L H ((dGet xs k).getD .non) v → Q w' s') : wpAny (model X.prog X.w) A (call (.builtin "dict.get") [.ref a, u]) Q E s := by
  obtain ⟨lo, oks, us, r, dd⟩ := tab_at I h rt
  have nk := Rep.nk I k y u z ry
  obtain ⟨l, rfl⟩ := ks
  cases nk with
  | @tup c o vs n ks h1 h2 h3 h4 =>
  refine call_meetsIn PySem.F.slot_dict_get dd.typeIs PySem.F.entry_dict_get (PySem.F.args_dict_get_2 _ _) (meetsH_dict_get (nestedKind X.prog X.w) a c lo) ⟨room9 hu, .tup l, us, ⟨.tup h1 h2 h3 h4, ok.dp⟩, dd, ?_⟩
  rcases TRel.at (.tup l) r with ⟨q1, q2⟩ | ⟨b', v', u', q1, q2, q3⟩ <;> rcases rt.get (.tup l) with ⟨p1, p2⟩ | ⟨d, b2, v2, p1, p2, p3⟩
  · rw [q2]; rw [p1] at hQ; exact hQ .non _ _ (I.tok _) rfl .non
  · rw [q1] at p2; cases p2
  · rw [q1] at p2; cases p2
  · rw [q1] at p2; cases p2
    rw [q2]; rw [p1] at hQ; exact hQ _ _ _ (I.tok _) q3 p3
theorem tb_get2 {x : V} {dx : D} {ux : Value} {Q : Value → Shared → Prop} (hu : A.units + 64 < cLine) (I : Inv X pins σ H s) (h : Rd H a (tabO a kvs)) (rt : RepT ds L H xs kvs) (z : Rep ds L H (ofNK k) y) (ok : KOk k) (ks : ∃ l, k = .tup l) (ry : RelV y u) (zx : Rep ds L H dx x) (rx : RelV x ux)
    (hQ : ∀ v w' s', Inv X pins σ H s' → RelV v w' → Rep ds L H ((dGet xs k).getD dx) v → Q w' s') : wpAny (model X.prog X.w) A (call (.builtin "dict.get") [.ref a, u, ux]) Q E s := by
  obtain ⟨lo, oks, us, r, dd⟩ := tab_at I h rt
  have nk := Rep.nk I k y u z ry
  obtain ⟨l, rfl⟩ := ks
  cases nk with
  | @tup c o vs n ks h1 h2 h3 h4 =>
  refine call_meetsIn PySem.F.slot_dict_get dd.typeIs PySem.F.entry_dict_get (PySem.F.args_dict_get_3 _ _ _) (meetsH_dict_get_default (nestedKind X.prog X.w) a c lo ux) ⟨room9 hu, .tup l, us, ⟨.tup h1 h2 h3 h4, ok.dp⟩, dd, ?_⟩
  rcases TRel.at (.tup l) r with ⟨q1, q2⟩ | ⟨b', v', u', q1, q2, q3⟩ <;> rcases rt.get (.tup l) with ⟨p1, p2⟩ | ⟨d, b2, v2, p1, p2, p3⟩
  · rw [q2]; rw [p1] at hQ; exact hQ x _ _ (I.tok _) rx zx
  · rw [q1] at p2; cases p2
  · rw [q1] at p2; cases p2
  · rw [q1] at p2; cases p2
    rw [q2]; rw [p1] at hQ; exact hQ _ _ _ (I.tok _) q3 p3
/-- d[y] = v -/
theorem tb_set {b : Addr} {v : V} {uv : Value} {Q : Unit → Shared → Prop} (hu : A.units + 64 < cLine) (I : Inv X pins σ H s) (h : H a = some (tabO a kvs)) (hl : kvs.length < sizeLine) (rt : RepT ds L H xs kvs) (z : Rep ds L H (ofNK k) (.ref b)) (ok : KOk k) (rv : RelV v uv)
    (hQ : ∀ s', Inv X pins σ (upd H a (tabO a (tPut kvs k b v))) s' → Q () s') : wpAny (model X.prog X.w) A (setItem (.ref a) (.ref b) uv) Q E s := by
  obtain ⟨lo, oks, us, r, dd⟩ := tab_at I (.inl h) rt
  have nk := Rep.nk I k (.ref b) (.ref b) z rfl
  have e := Paired.length r
  refine wpAny_setItem_heap (knd := nestedKind X.prog X.w) (hsz := by omega) (room9 hu) ⟨nk, ok.dp⟩ dd fun h' dd' hs => hQ _ ?_
  have he : ∃ q, h'.get? a = some q := let ⟨q, _, _, hq, _⟩ := dd'; ⟨q, hq⟩
  refine d_write I (by rw [h]; exact True.intro) hs he (tab_ext (tab_new lo (fun p hp => ?_) (TRel.put k b r rv) dd'))
  unfold tPut at hp
  split at hp
  · obtain ⟨p', hp', rfl⟩ := List.mem_map.mp hp
    split
    · exact oks p' hp'
    · exact oks p' hp'
  · rcases List.mem_append.mp hp with hp | hp
    · exact oks p hp
    · obtain rfl := List.mem_singleton.mp hp
      exact ok
theorem tb_len {Q : Value → Shared → Prop} (I : Inv X pins σ H s) (h : Rd H a (tabO a kvs)) (hz : kvs.length ≤ sizeLine) (rt : RepT ds L H xs kvs) (hQ : ∀ t s', Inv X pins σ H s' → Q (.int (kvs.length : Nat) t) s') : wpAny (model X.prog X.w) A (call (.builtin "len") [.ref a]) Q E s := by
  obtain ⟨lo, oks, us, r, dd⟩ := tab_at I h rt
  have e := Paired.length r
  refine PySem.call_len_dictH lo dd (by have := line63; omega) ?_
  rw [← e]
  exact hQ _ _ ((I.tok _).tok _)
end
end DL
/-! DL, part D: the operators on data, by the hand layer's rules. -/
namespace DL
open PySem PySem.Spec PyProof.Rows L2

/-- p's label is set -/
def relab (O : Lab) (p : Addr) (l : Option Nat) : Lab := fun a => if a = p then l else O a
def lbl (m : Nat) : Option Nat := if m = 2 ∨ m = 3 then some 2 else none
def isC : D → Bool
  | .lst _ => true
  | .dK _ => true
  | .dT _ => true
  | _ => false
/-- what is handed over as new was not there before -/
def NewR (m : Nat) (H : Hp) (d : D) (v : V) : Prop := (m = 2 ∨ m = 3) → isC d = true → ∀ p, v = .ref p → H p = none
/-- what is wanted of a value that stands for d -/
def Res (m : Nat) (S : Sx) (O : Lab) (H : Hp) (Q : VK) (d : D) : Prop := ∀ O' H' v, Ext S O H O' H' → RepM m S O' H' d v → NewR m H d v → Q v H'
theorem NewR.flat {m : Nat} {H : Hp} {d : D} {v : V} (h : isC d = false) : NewR m H d v := fun _ z => by rw [h] at z; cases z
theorem NewR.old {m : Nat} {H : Hp} {d : D} {v : V} (h : m ≠ 2) (h' : m ≠ 3) : NewR m H d v := fun z => by rcases z with z | z; exact absurd z h; exact absurd z h'
theorem NewR.at {m : Nat} {H : Hp} {d : D} {p : Addr} (h : H p = none) : NewR m H d (.ref p) := fun _ _ q e => by cases e; exact h

section
variable {S : Sx} {O O' : Lab} {H H' : Hp} {d : D} {v : V} {m : Nat}
theorem Ext.new {p : Addr} {o : HO} {l : Option Nat} (hp : H p = none) : Ext S O H (relab O p l) (upd H p o) where
  old := fun e _ => by rw [upd_ne (ne_of_none e hp)]; exact e
  lab := fun e => by unfold relab; rw [if_neg (ne_of_none e hp)]
  dom := fun e => ⟨_, by rw [upd_ne (ne_of_none e hp)]; exact e⟩
  tup := fun e => by rw [upd_ne (ne_of_none e hp)]; exact e
  gt := fun e => by rw [upd_ne (ne_of_none e hp)]; exact e
  src := fun ⟨h1, h2, h3, c, l', mi, t, h4, h5, h6⟩ => by
    have n1 := ne_of_none h4 hp
    have n2 := ne_of_none h5 hp
    refine ⟨?_, ?_, h3, c, l', mi, t, ?_, ?_, h6⟩
    · unfold relab; rw [if_neg n1]; exact h1
    · unfold relab; rw [if_neg n2]; exact h2
    · rw [upd_ne n1]; exact h4
    · rw [upd_ne n2]; exact h5
theorem relab_same {p : Addr} {l : Option Nat} : relab O p l p = l := by unfold relab; rw [if_pos rfl]
theorem relab_ne {p a : Addr} {l : Option Nat} (h : a ≠ p) : relab O p l a = O a := by unfold relab; rw [if_neg h]

/-- what is no container -/
def flatD : D → Bool
  | .non => true
  | .bl _ => true
  | .int _ => true
  | .str _ => true
  | .tup _ => true
  | .pr _ _ => true
  | _ => false
theorem flat_isC {d : D} (f : flatD d = true) : isC d = false := by cases d <;> first | rfl | cases f
theorem NewR.back {m : Nat} {S : Sx} {O O' : Lab} {H H' : Hp} {d : D} {v : V} (x : Ext S O H O' H') (h : NewR m H' d v) : NewR m H d v := fun z c p e => by
  have q := h z c p e
  cases hp : H p with
  | none => rfl
  | some o => obtain ⟨o', e'⟩ := x.dom hp; rw [e'] at q; cases q
theorem RepM.flat (h : Rep S.ds (LV O) H d v) (f : flatD d = true) : RepM m S O H d v := by
  have r := h.read
  unfold RepM
  split
  · exact h
  · exact h.top
  · cases d <;> first | exact h | cases f
  · cases d <;> first | exact h | cases f
  · exact h.top2
  · exact r
theorem RepM.val (h : Rep S.ds (LV O) H d v) (hm : m ≠ 2) (hm' : m ≠ 3) : RepM m S O H d v := by
  have r := h.read
  unfold RepM
  split
  · exact h
  · exact h.top
  · exact absurd rfl hm
  · exact absurd rfl hm'
  · exact h.top2
  · exact r
/-- a scalar answer -/
theorem Res.scal {Q : VK} {d : D} {v : V} (h : Res m S O H Q d) (r : ∀ ds L H, Rep ds L H d v) (f : flatD d = true) : Q v H := h O H v Ext.refl (RepM.flat (r _ _ _) f) (.flat (flat_isC f))
theorem Res.scal' {Q : VK} {d : D} {v : V} (h : Res m S O H Q d) (r : Rep S.ds (LV O) H d v) (f : flatD d = true) : Q v H := h O H v Ext.refl (RepM.flat r f) (.flat (flat_isC f))
/-- a new list of frozen items -/
theorem Res.lst {Q : VK} {xs : List D} {vs : List V} (h : Res m S O H Q (.lst xs)) (hm : m ≠ 3) (r : RepL S.ds (LV O) H xs vs) (hz : vs.length ≤ sizeLine) : ∀ p, H p = none → Q (.ref p) (upd H p (.lst vs)) := fun p hp => by
  have x : Ext S O H (relab O p (lbl m)) (upd H p (.lst vs)) := Ext.new hp
  refine h _ _ _ x ?_ (.at hp)
  have i := RepL.kp x.kpV _ _ r
  have e1 : lbl m = relab O p (lbl m) p := relab_same.symm
  unfold RepM
  split
  · exact .lst (by show relab O p _ p = none; rw [relab_same]; rfl) upd_same hz i
  · exact ⟨p, vs, rfl, by rw [relab_same]; simp [lbl], upd_same, hz, i⟩
  · exact ⟨p, vs, rfl, by rw [relab_same]; simp [lbl], upd_same, hz, i⟩
  · exact absurd rfl hm
  · exact ⟨p, vs, rfl, by rw [relab_same]; unfold lbl; split <;> simp, upd_same, hz, i.topL⟩
  · refine .lst ?_ upd_same hz (RepL.kp kpVR _ _ i)
    show relab O p _ p ≠ some 0
    rw [relab_same]; unfold lbl; split <;> simp
theorem Res.tup {Q : VK} {xs : List D} {vs : List V} (h : Res m S O H Q (.tup xs)) (r : RepL S.ds (LV O) H xs vs) (hz : vs.length ≤ sizeLine) : NewT H Q vs := fun p o hp ho => by
  have x : Ext S O H (relab O p none) (upd H p (.frz o (.tup vs))) := Ext.new hp
  exact h _ _ _ x (RepM.flat (.tup ⟨o, ho, upd_same⟩ hz (RepL.kp x.kpV _ _ r)) rfl) (.flat rfl)
theorem Res.dKn {Q : VK} {xs : List (Key × D)} {vs : List (Key × V)} (h : Res m S O H Q (.dK xs)) (hm : m ≠ 3) (r : RepK S.ds (LV O) H xs vs) (hz : vs.length ≤ sizeLine) : ∀ p, H p = none → Q (.ref p) (upd H p (.dK vs)) := fun p hp => by
  have x : Ext S O H (relab O p (lbl m)) (upd H p (.dK vs)) := Ext.new hp
  refine h _ _ _ x ?_ (.at hp)
  have i := RepK.kp x.kpV _ _ r
  unfold RepM
  split
  · exact .dK (by show relab O p _ p = none; rw [relab_same]; rfl) (.inl upd_same) hz i
  · exact ⟨p, vs, rfl, by rw [relab_same]; simp [lbl], .inl upd_same, hz, i⟩
  · exact ⟨p, vs, rfl, by rw [relab_same]; simp [lbl], upd_same, hz, i⟩
  · exact absurd rfl hm
  · exact .dK (by show relab O p _ p = none; rw [relab_same]; rfl) (.inl upd_same) hz i
  · refine .dK ?_ (.inl upd_same) hz (RepK.kp kpVR _ _ i)
    show relab O p _ p ≠ some 0
    rw [relab_same]; unfold lbl; split <;> simp
theorem Res.dTn {Q : VK} {xs : List (NestedKey × D)} {vs : List (NestedKey × Addr × V)} (h : Res m S O H Q (.dT xs)) (hm : m ≠ 3) (r : RepT S.ds (LV O) H xs vs) (hz : vs.length ≤ sizeLine) : ∀ p, H p = none → Q (.ref p) (upd H p (tabO p vs)) := fun p hp => by
  have x : Ext S O H (relab O p (lbl m)) (upd H p (tabO p vs)) := Ext.new hp
  refine h _ _ _ x ?_ (.at hp)
  have i := RepT.kp x.kpV _ _ r
  unfold RepM
  split
  · exact .dT (by show relab O p _ p = none; rw [relab_same]; rfl) (.inl upd_same) hz i
  · exact ⟨p, vs, rfl, by rw [relab_same]; simp [lbl], .inl upd_same, hz, i⟩
  · exact ⟨p, vs, rfl, by rw [relab_same]; simp [lbl], upd_same, hz, i⟩
  · exact absurd rfl hm
  · exact .dT (by show relab O p _ p = none; rw [relab_same]; rfl) (.inl upd_same) hz i
  · refine .dT ?_ (.inl upd_same) hz (RepT.kp kpVR _ _ i)
    show relab O p _ p ≠ some 0
    rw [relab_same]; unfold lbl; split <;> simp
theorem Res.ext {Q : VK} {m : Nat} (x : Ext S O H O' H') (h : Res m S O H Q d) : Res m S O' H' Q d := fun O2 H2 v y r n => h O2 H2 v (x.trans y) r (n.back x)
end

/-! ### two operands -/
def toOp : Bop → Operator
  | .add => .Add
  | .sub => .Sub
  | .mul => .Mult
  | .fdiv => .FloorDiv
  | .mod => .Mod
def rBop (m : Nat) (o : Bop) : R2 := fun x y H Q => ∃ S O d e z, RepM 1 S O H d x ∧ RepM 1 S O H e y ∧ bopD o d e = some z ∧ Res m S O H Q z
section
variable {X : Cx}
theorem abs64 {a : Int} (h : a.natAbs < 2 ^ 64) : -(2 ^ 64) < a ∧ a < 2 ^ 64 := by omega
theorem bop_ok (m : Nat) (hm : m ≠ 3) (o : Bop) : OpR X (binaryOp (toOp o)) (rBop m o) := by
  intro pins s σ H x y v u Q I rx ry ⟨S, O, d, e, z, h1, h2, h3, hz⟩
  unfold bopD at h3
  split at h3
  · cases h3; cases h1; cases h2
    exact op_add pins s σ H _ _ v u Q I rx ry ⟨_, _, rfl, rfl, hz.scal (fun _ _ _ => .int _) rfl⟩
  · rename_i a b
    split at h3
    · rename_i q
      cases h3
      obtain ⟨p, vs, rfl, n, r, zl, i⟩ := h1
      obtain ⟨p', vs', rfl, n', r', zl', i'⟩ := h2
      have e1 := i.length; have e2 := i'.length
      refine op_cat pins s σ H _ _ v u Q I rx ry ⟨_, _, _, _, rfl, rfl, r, r', by omega, hz.lst hm (i.append i') (by rw [List.length_append]; omega)⟩
    · cases h3
  · rename_i a b
    split at h3
    · rename_i q
      cases h3
      cases h1 with
      | tup r zl i =>
      cases h2 with
      | tup r' zl' i' =>
      have e1 := i.length; have e2 := i'.length
      refine op_catG pins s σ H _ _ v u Q I rx ry ⟨_, _, _, _, rfl, rfl, r.sq, r'.sq, by omega, fun q0 => ?_, fun q1 q2 => ?_, fun q1 q2 => ?_⟩
      · subst q0
        cases i
        exact hz.scal' (.tup r' zl' i') rfl
      · subst q2
        cases i'
        refine hz.scal' ?_ rfl
        rw [List.append_nil]
        exact .tup r zl i
      · exact hz.tup (i.append i') (by rw [List.length_append]; omega)
    · cases h3
  · cases h3; cases h1; cases h2
    exact op_sub pins s σ H _ _ v u Q I rx ry ⟨_, _, rfl, rfl, hz.scal (fun _ _ _ => .int _) rfl⟩
  · split at h3
    · rename_i q
      cases h3; cases h1; cases h2
      refine op_mul pins s σ H _ _ v u Q I rx ry ⟨_, _, rfl, rfl, ?_, hz.scal (fun _ _ _ => .int _) rfl⟩
      rcases q with q | q
      · exact .inl (abs64 q)
      · exact .inr (abs64 q)
    · cases h3
  · rename_i a k
    split at h3
    · rename_i q
      cases h3
      obtain ⟨p, vs, rfl, n, r, zl, i⟩ := h1
      cases h2
      have e1 := i.length
      have hl : (List.replicate k.toNat vs).flatten.length ≤ sizeLine := by
        rw [PyProof.Rows.lm_len_rep_flat, Nat.mul_comm, ← e1]; exact q.1
      refine op_rep pins s σ H _ _ v u Q I rx ry ⟨_, _, _, rfl, rfl, r, by omega, by omega, by rw [← e1]; exact q.1, hz.lst hm (i.flatRep _) hl⟩
    · cases h3
  · rename_i a k
    split at h3
    · rename_i q
      cases h3
      obtain ⟨q2, q3, q4⟩ := q
      cases h1 with
      | tup r zl i =>
      rename_i p vs
      cases h2
      have e1 := i.length
      have hl : (List.replicate k.toNat vs).flatten.length ≤ sizeLine := by
        rw [PyProof.Rows.lm_len_rep_flat]
        have : k.toNat ≤ 1000 := by omega
        have : k.toNat * vs.length ≤ 1000 * 1000 := Nat.mul_le_mul this (by omega)
        have := sizeLine_eq
        omega
      refine op_repG pins s σ H _ _ v u Q I rx ry ⟨_, _, _, rfl, rfl, r.sq, q2, q3, by omega, fun q0 => hz.scal' ?_ rfl, fun _ q1 => ?_, fun _ _ => hz.tup (i.flatRep _) hl⟩
      · rcases q0 with q0 | q0
        · subst q0
          cases i
          rw [show (List.replicate k.toNat ([] : List D)).flatten = [] by simp]
          exact .tup r zl .nil
        · subst q0
          rw [show (List.replicate (1 : Int).toNat a).flatten = a by simp]
          exact .tup r zl i
      · subst q1
        exact hz.tup (xs := []) .nil (Nat.zero_le _)
    · cases h3
  · split at h3
    · rename_i q
      cases h3; cases h1; cases h2
      exact op_fdiv pins s σ H _ _ v u Q I rx ry ⟨_, _, rfl, rfl, q, hz.scal (fun _ _ _ => .int _) rfl⟩
    · cases h3
  · split at h3
    · rename_i q
      cases h3; cases h1; cases h2
      exact op_mod pins s σ H _ _ v u Q I rx ry ⟨_, _, rfl, rfl, q, hz.scal (fun _ _ _ => .int _) rfl⟩
    · cases h3
  · cases h3
end

/-! ### data read off -/
section
variable {ds : Addr} {L : Addr → Prop} {H : Hp} {K : PySem.W.Frag}
mutual
theorem Rep.dp : ∀ (n : Nat) (d : D) (v : V), plain n d = true → Rep ds L H d v → Dp K H v (toPy d)
  | _, .non, _, _, h => by cases h; exact .non
  | _, .bl _, _, _, h => by cases h; exact .bl _
  | _, .int _, _, _, h => by cases h; exact .int _
  | _, .str _, _, _, h => by cases h; exact .str _
  | n + 1, .tup xs, _, p, h => by
    cases h with
    | tup h1 h2 h3 => exact .tup h1.sq (RepL.dp n xs _ (by rw [plain] at p; exact p) h3)
  | n + 1, .lst xs, _, p, h => by
    cases h with
    | lst h0 h1 h2 h3 => exact .lst (SqL.of h1) (RepL.dp n xs _ (by rw [plain] at p; exact p) h3)
  | 0, .tup xs, _, p, h => by simp [plain] at p
  | 0, .lst xs, _, p, h => by simp [plain] at p
  | 0, .dK xs, _, p, h => by simp [plain] at p
  | 0, .dT xs, _, p, h => by simp [plain] at p
  | 0, .pr _ _, _, p, h => by simp [plain] at p
  | n + 1, .pr _ _, _, p, h => by rw [plain] at p; cases p
  | 0, .src, _, p, h => by simp [plain] at p
  | n + 1, .dK xs, _, p, h => by rw [plain] at p; cases p
  | n + 1, .dT xs, _, p, h => by rw [plain] at p; cases p
  | n + 1, .src, _, p, h => by rw [plain] at p; cases p
theorem RepL.dp : ∀ (n : Nat) (xs : List D) (vs : List V), plains n xs = true → RepL ds L H xs vs → DpAll K H vs (toPys xs)
  | _, [], _, _, h => by cases h; exact .nil
  | n, d :: xs, _, p, h => by
    cases h with
    | cons h1 h2 =>
      rw [plains, Bool.and_eq_true] at p
      exact .cons (Rep.dp n d _ p.1 h1) (RepL.dp n xs _ p.2 h2)
end
end
mutual
theorem plain_py : ∀ (n : Nat) (d : D), plain n d = true → (toPy d).plain = true ∧ (toPy d).depth ≤ n
  | _, .non, _ => ⟨rfl, Nat.zero_le _⟩
  | _, .bl _, _ => ⟨rfl, Nat.zero_le _⟩
  | _, .int _, _ => ⟨rfl, Nat.zero_le _⟩
  | _, .str _, _ => ⟨rfl, Nat.zero_le _⟩
  | n + 1, .tup xs, p => by
    rw [plain] at p
    have h := plains_py n xs p
    exact ⟨by rw [toPy, PyData.plain]; exact h.1, by rw [toPy, PyData.depth]; omega⟩
  | n + 1, .lst xs, p => by
    rw [plain] at p
    have h := plains_py n xs p
    exact ⟨by rw [toPy, PyData.plain]; exact h.1, by rw [toPy, PyData.depth]; omega⟩
  | 0, .tup xs, p => by simp [plain] at p
  | 0, .lst xs, p => by simp [plain] at p
  | 0, .dK xs, p => by simp [plain] at p
  | 0, .dT xs, p => by simp [plain] at p
  | 0, .pr _ _, p => by simp [plain] at p
  | n + 1, .pr _ _, p => by rw [plain] at p; cases p
  | 0, .src, p => by simp [plain] at p
  | n + 1, .dK xs, p => by rw [plain] at p; cases p
  | n + 1, .dT xs, p => by rw [plain] at p; cases p
  | n + 1, .src, p => by rw [plain] at p; cases p
theorem plains_py : ∀ (n : Nat) (xs : List D), plains n xs = true → PyData.plainAll (toPys xs) = true ∧ PyData.depthAll (toPys xs) ≤ n
  | _, [], _ => ⟨rfl, Nat.zero_le _⟩
  | n, d :: xs, p => by
    rw [plains, Bool.and_eq_true] at p
    have h1 := plain_py n d p.1
    have h2 := plains_py n xs p.2
    exact ⟨by rw [toPys, PyData.plainAll, h1.1, h2.1]; rfl, by rw [toPys, PyData.depthAll]; omega⟩
end
mutual
theorem eqD_py : ∀ (a b : D), eqD a b = PyData.eqv (toPy a) (toPy b)
  | .non, b => by cases b <;> rfl
  | .bl _, b => by cases b <;> rfl
  | .int _, b => by cases b <;> rfl
  | .str _, b => by cases b <;> rfl
  | .tup xs, b => by
    cases b with
    | tup ys => rw [eqD, toPy, toPy, PyData.eqv]; exact eqDs_py xs ys
    | _ => simp [eqD, toPy, PyData.eqv]
  | .lst xs, b => by
    cases b with
    | lst ys => rw [eqD, toPy, toPy, PyData.eqv]; exact eqDs_py xs ys
    | _ => simp [eqD, toPy, PyData.eqv]
  | .dK _, b => by cases b <;> simp [eqD, toPy, PyData.eqv]
  | .dT _, b => by cases b <;> simp [eqD, toPy, PyData.eqv]
  | .pr _ _, b => by cases b <;> simp [eqD, toPy, PyData.eqv]
  | .src, b => by cases b <;> simp [eqD, toPy, PyData.eqv]
theorem eqDs_py : ∀ (xs ys : List D), eqDs xs ys = PyData.eqvAll (toPys xs) (toPys ys)
  | [], [] => by simp [eqDs, toPys, PyData.eqvAll]
  | [], _ :: _ => by simp [eqDs, toPys, PyData.eqvAll]
  | _ :: _, [] => by simp [eqDs, toPys, PyData.eqvAll]
  | x :: xs, y :: ys => by
    rw [eqDs, toPys, toPys, PyData.eqvAll, eqD_py x y, eqDs_py xs ys]
end
theorem toPys_map : ∀ xs : List D, toPys xs = xs.map toPy
  | [] => rfl
  | x :: xs => by rw [toPys, toPys_map xs]; rfl
mutual
theorem alikeD_py : ∀ (a b : D), alikeD a b = true → PySem.W.alike (toPy a) (toPy b) = true
  | .bl _, b, h => by cases b <;> first | rfl | (simp [alikeD] at h)
  | .int _, b, h => by cases b <;> first | rfl | (simp [alikeD] at h)
  | .str _, b, h => by cases b <;> first | rfl | (simp [alikeD] at h)
  | .tup xs, b, h => by
    cases b with
    | tup ys => rw [toPy, toPy, PySem.W.alike]; rw [alikeD] at h; exact alikeDs_py xs ys h
    | _ => simp [alikeD] at h
  | .lst xs, b, h => by
    cases b with
    | lst ys => rw [toPy, toPy, PySem.W.alike]; rw [alikeD] at h; exact alikeDs_py xs ys h
    | _ => simp [alikeD] at h
  | .non, b, h => by simp [alikeD] at h
  | .dK _, b, h => by simp [alikeD] at h
  | .dT _, b, h => by simp [alikeD] at h
  | .pr _ _, b, h => by simp [alikeD] at h
  | .src, b, h => by simp [alikeD] at h
theorem alikeDs_py : ∀ (xs ys : List D), alikeDs xs ys = true → PySem.W.alikeAll (toPys xs) (toPys ys) = true
  | [], ys, h => by rw [toPys]; cases ys <;> simp [toPys, PySem.W.alikeAll]
  | x :: xs, [], h => by simp [toPys, PySem.W.alikeAll]
  | x :: xs, y :: ys, h => by
    rw [alikeDs, Bool.and_eq_true] at h
    rw [toPys, toPys, PySem.W.alikeAll, alikeD_py x y h.1, alikeDs_py xs ys h.2]; rfl
end

/-! ### comparisons -/
def toCmp : Cop → CmpOp
  | .lt => .Lt
  | .le => .LtE
  | .gt => .Gt
  | .ge => .GtE
  | .eq => .Eq
  | .ne => .NotEq
  | .is => .Is
  | .isnot => .IsNot
  | .inn => .In
  | .notin => .NotIn
def rCop (o : Cop) : R2 := fun x y H Q => ∃ (S : Sx) (O : Lab) (d e : D) (z : Bool), Rep S.ds (LR O) H d x ∧ Rep S.ds (LR O) H e y ∧ copD o d e = some z ∧ Q (.bl z) H
section
variable {X : Cx} {pins : List (Addr × Obj)} {σ : L2.St} {H : Hp} {s : Shared}
theorem Rep.reads (I : Inv X pins σ H s) {S : Addr} {L : Addr → Prop} {n : Nat} {d : D} {v : V} {u : Value} (p : plain n d = true) (h : Rep S L H d v) (r : RelV v u) : ∃ as, Reads s.heap u (toPy d) as :=
  Dp.reads I (toPy d) v u (Rep.dp n d v p h) r
theorem pl2 {a b : D} {n : Nat} (h : (plain n a && plain n b) = true) : plain n a = true ∧ plain n b = true := by rw [Bool.and_eq_true] at h; exact h
theorem cmpOk_py {a b : List D} (h : cmpOk a b = true) : plain 58 (.tup a) = true ∧ plain 58 (.tup b) = true ∧ PySem.W.alike (toPy (.tup a)) (toPy (.tup b)) = true ∧ PySem.W.alike (toPy (.tup b)) (toPy (.tup a)) = true := by
  unfold cmpOk at h
  simp only [Bool.and_eq_true] at h
  obtain ⟨⟨h1, h2⟩, h3, h4⟩ := h
  exact ⟨by rw [plain]; exact h3, by rw [plain]; exact h4, by rw [toPy, toPy, PySem.W.alike]; exact alikeDs_py _ _ h1, by rw [toPy, toPy, PySem.W.alike]; exact alikeDs_py _ _ h2⟩
theorem inD_py (x : D) (ys : List D) : inD x ys = (toPys ys).any fun z => PyData.eqv z (toPy x) := by
  rw [toPys_map, List.any_map]
  unfold inD
  congr 1
  funext z
  exact eqD_py z x
theorem hu1 {A : Around} (hu : A.units + 64 < cLine) : A.units + 1 < cLine := by omega
theorem cop_ok (hu : X.A.units + 64 < cLine) (o : Cop) : OpR X (compareOp (toCmp o)) (rCop o) := by
  intro pins s σ H x y v u Q I rx ry ⟨S, O, d, e, z, h1, h2, h3, q⟩
  have dm : ∀ (a b : PyData), a.depth ≤ 58 → X.A.units + min a.depth b.depth < cLine := fun a b h => by
    have := Nat.min_le_left a.depth b.depth
    omega
  unfold copD at h3
  split at h3
  · cases h3; cases h1; cases h2
    exact op_lt pins s σ H _ _ v u Q I rx ry ⟨_, _, rfl, rfl, q⟩
  · cases h3; cases h1; cases h2
    exact op_gt pins s σ H _ _ v u Q I rx ry ⟨_, _, rfl, rfl, q⟩
  · cases h3; cases h1; cases h2
    exact op_le pins s σ H _ _ v u Q I rx ry ⟨_, _, rfl, rfl, q⟩
  · cases h3; cases h1; cases h2
    exact op_ge pins s σ H _ _ v u Q I rx ry ⟨_, _, rfl, rfl, q⟩
  · split at h3
    · rename_i g
      cases h3
      obtain ⟨p1, p2, l1, l2⟩ := cmpOk_py g
      obtain ⟨as, r1⟩ := h1.reads I p1 rx
      obtain ⟨bs, r2⟩ := h2.reads I p2 ry
      obtain ⟨a1, a2⟩ := plain_py _ _ p1
      exact PySem.W.lt_data r1 r2 l1 (by simp [toPy]) (dm _ _ a2) ⟨.bl _, H, I, rfl, q⟩
    · cases h3
  · split at h3
    · rename_i g
      cases h3
      obtain ⟨p1, p2, l1, l2⟩ := cmpOk_py g
      obtain ⟨as, r1⟩ := h1.reads I p1 rx
      obtain ⟨bs, r2⟩ := h2.reads I p2 ry
      obtain ⟨a1, a2⟩ := plain_py _ _ p1
      exact PySem.W.gt_data r1 r2 l1 (by simp [toPy]) (dm _ _ a2) ⟨.bl _, H, I, rfl, q⟩
    · cases h3
  · split at h3
    · rename_i g
      cases h3
      obtain ⟨p1, p2, l1, l2⟩ := cmpOk_py g
      obtain ⟨as, r1⟩ := h1.reads I p1 rx
      obtain ⟨bs, r2⟩ := h2.reads I p2 ry
      obtain ⟨a1, a2⟩ := plain_py _ _ p1
      exact PySem.W.le_data r1 r2 l1 (by simp [toPy]) (dm _ _ a2) ⟨.bl _, H, I, rfl, q⟩
    · cases h3
  · split at h3
    · rename_i g
      cases h3
      obtain ⟨p1, p2, l1, l2⟩ := cmpOk_py g
      obtain ⟨as, r1⟩ := h1.reads I p1 rx
      obtain ⟨bs, r2⟩ := h2.reads I p2 ry
      obtain ⟨a1, a2⟩ := plain_py _ _ p1
      exact PySem.W.ge_data r1 r2 l1 (by simp [toPy]) (dm _ _ a2) ⟨.bl _, H, I, rfl, q⟩
    · cases h3
  · split at h3
    · rename_i g
      cases h3
      obtain ⟨p1, p2⟩ := pl2 g
      obtain ⟨as, r1⟩ := h1.reads I p1 rx
      obtain ⟨bs, r2⟩ := h2.reads I p2 ry
      obtain ⟨a1, a2⟩ := plain_py _ _ p1
      obtain ⟨b1, b2⟩ := plain_py _ _ p2
      refine PySem.SeqAt.eq_plain r1 r2 a1 b1 (dm _ _ a2) ?_
      rw [← eqD_py]
      exact ⟨.bl _, H, I, rfl, q⟩
    · cases h3
  · split at h3
    · rename_i g
      cases h3
      obtain ⟨p1, p2⟩ := pl2 g
      obtain ⟨as, r1⟩ := h1.reads I p1 rx
      obtain ⟨bs, r2⟩ := h2.reads I p2 ry
      obtain ⟨a1, a2⟩ := plain_py _ _ p1
      obtain ⟨b1, b2⟩ := plain_py _ _ p2
      refine PySem.SeqAt.ne_plain r1 r2 a1 b1 (dm _ _ a2) ?_
      rw [← eqD_py]
      exact ⟨.bl _, H, I, rfl, q⟩
    · cases h3
  · cases h3; cases h1; cases h2
    exact op_isBl pins s σ H _ _ v u Q I rx ry ⟨_, _, rfl, rfl, q⟩
  · cases h3; cases h1; cases h2
    exact op_notBl pins s σ H _ _ v u Q I rx ry ⟨_, _, rfl, rfl, q⟩
  · cases h3; cases h1; cases h2
    exact op_isN pins s σ H _ _ v u Q I rx ry ⟨rfl, q⟩
  · cases h3; cases h1; cases h2
    exact op_isN pins s σ H _ _ v u Q I rx ry ⟨rfl, q⟩
  · cases h3; cases h1; cases h2
    exact op_isN pins s σ H _ _ v u Q I rx ry ⟨rfl, q⟩
  · cases h3; cases h1; cases h2
    exact op_isN pins s σ H _ _ v u Q I rx ry ⟨rfl, q⟩
  · cases h3; cases h1; cases h2
    exact op_isN pins s σ H _ _ v u Q I rx ry ⟨rfl, q⟩
  · cases h3; cases h1; cases h2
    exact op_notN pins s σ H _ _ v u Q I rx ry ⟨rfl, q⟩
  · cases h3; cases h1; cases h2
    exact op_notN pins s σ H _ _ v u Q I rx ry ⟨rfl, q⟩
  · cases h3; cases h1; cases h2
    exact op_notN pins s σ H _ _ v u Q I rx ry ⟨rfl, q⟩
  · cases h3; cases h1; cases h2
    exact op_notN pins s σ H _ _ v u Q I rx ry ⟨rfl, q⟩
  · cases h3; cases h1; cases h2
    exact op_notN pins s σ H _ _ v u Q I rx ry ⟨rfl, q⟩
  · rename_i ys
    split at h3
    · rename_i g
      cases h3
      rw [Bool.and_eq_true] at g
      obtain ⟨p1, p2⟩ := g
      have p3 : plain 59 (.tup ys) = true := by rw [plain]; exact p2
      obtain ⟨as, r1⟩ := h1.reads I p1 rx
      obtain ⟨bs, r2⟩ := h2.reads I p3 ry
      obtain ⟨a1, a2⟩ := plain_py _ _ p1
      obtain ⟨b1, b2⟩ := plains_py _ _ p2
      refine PySem.SeqAt.in_tuple_data r2 r1 b1 a1 (by omega) ?_
      rw [← inD_py]
      exact ⟨.bl _, H, I, rfl, q⟩
    · cases h3
  · rename_i ys
    split at h3
    · rename_i g
      cases h3
      rw [Bool.and_eq_true] at g
      obtain ⟨p1, p2⟩ := g
      have p3 : plain 59 (.lst ys) = true := by rw [plain]; exact p2
      obtain ⟨as, r1⟩ := h1.reads I p1 rx
      obtain ⟨bs, r2⟩ := h2.reads I p3 ry
      obtain ⟨a1, a2⟩ := plain_py _ _ p1
      obtain ⟨b1, b2⟩ := plains_py _ _ p2
      refine PySem.SeqAt.in_list_data r2 r1 b1 a1 (by omega) ?_
      rw [← inD_py]
      exact ⟨.bl _, H, I, rfl, q⟩
    · cases h3
  · rename_i ys
    split at h3
    · rename_i g
      cases h3
      rw [Bool.and_eq_true] at g
      obtain ⟨p1, p2⟩ := g
      have p3 : plain 59 (.tup ys) = true := by rw [plain]; exact p2
      obtain ⟨as, r1⟩ := h1.reads I p1 rx
      obtain ⟨bs, r2⟩ := h2.reads I p3 ry
      obtain ⟨a1, a2⟩ := plain_py _ _ p1
      obtain ⟨b1, b2⟩ := plains_py _ _ p2
      refine PySem.SeqAt.notIn_tuple_data r2 r1 b1 a1 (by omega) ?_
      rw [← inD_py]
      exact ⟨.bl _, H, I, rfl, q⟩
    · cases h3
  · rename_i ys
    split at h3
    · rename_i g
      cases h3
      rw [Bool.and_eq_true] at g
      obtain ⟨p1, p2⟩ := g
      have p3 : plain 59 (.lst ys) = true := by rw [plain]; exact p2
      obtain ⟨as, r1⟩ := h1.reads I p1 rx
      obtain ⟨bs, r2⟩ := h2.reads I p3 ry
      obtain ⟨a1, a2⟩ := plain_py _ _ p1
      obtain ⟨b1, b2⟩ := plains_py _ _ p2
      refine PySem.SeqAt.notIn_list_data r2 r1 b1 a1 (by omega) ?_
      rw [← inD_py]
      exact ⟨.bl _, H, I, rfl, q⟩
    · cases h3
  · obtain ⟨k, e1, e2⟩ := Option.map_eq_some_iff.mp h3
    subst e2
    cases h2 with
    | dK l0 r zl i =>
    have e3 := h1.key e1
    subst e3
    have g : DGet H _ (kV k) (valV _ k) := .inl ⟨_, k, r, rfl, rfl⟩
    cases ry
    refine d_in (hu1 hu) I g rx fun s' I' => ⟨.bl _, H, I', rfl, ?_⟩
    rcases i.get k with ⟨z1, z2⟩ | ⟨z0, z', z1, z2, _⟩
    · rw [z2]; rw [z1] at q; exact q
    · rw [z2]; rw [z1] at q; exact q
  · obtain ⟨k, e1, e2⟩ := Option.map_eq_some_iff.mp h3
    subst e2
    cases h2 with
    | dK l0 r zl i =>
    have e3 := h1.key e1
    subst e3
    have g : DGet H _ (kV k) (valV _ k) := .inl ⟨_, k, r, rfl, rfl⟩
    cases ry
    refine d_notIn (hu1 hu) I g rx fun s' I' => ⟨.bl _, H, I', rfl, ?_⟩
    rcases i.get k with ⟨z1, z2⟩ | ⟨z0, z', z1, z2, _⟩
    · rw [z2]; rw [z1] at q; exact q
    · rw [z2]; rw [z1] at q; exact q
  · obtain ⟨k, e1, e2⟩ := Option.map_eq_some_iff.mp h3
    subst e2
    cases h2 with
    | dT l0 r zl i =>
    obtain ⟨_, e3, _, _, ks⟩ := keyT_of e1
    cases ry
    exact tb_in hu I r i (by rw [e3]; exact h1) (keyT_ok e1) ks rx fun s' I' => ⟨.bl _, H, I', rfl, q⟩
  · obtain ⟨k, e1, e2⟩ := Option.map_eq_some_iff.mp h3
    subst e2
    cases h2 with
    | dT l0 r zl i =>
    obtain ⟨_, e3, _, _, ks⟩ := keyT_of e1
    cases ry
    exact tb_notIn hu I r i (by rw [e3]; exact h1) (keyT_ok e1) ks rx fun s' I' => ⟨.bl _, H, I', rfl, q⟩
  · cases h3
end
end DL
/-! DL, part E: subscripts, slices, built-in functions, methods on data. -/
namespace DL
open PySem PySem.Spec PyProof.Rows L2
section
variable {X : Cx}
theorem RepM.deep {S : Sx} {O : Lab} {H : Hp} {d : D} {v : V} {m : Nat} (h : Rep S.ds (LR O) H d v) (hm : 6 ≤ m ∨ m = 4) : RepM m S O H d v := by
  unfold RepM
  split <;> first | exact h | omega
/-- base's mode b, the answer's mode m -/
def IxM (b m : Nat) : Prop := (b = 1 ∧ m ≠ 2 ∧ m ≠ 3) ∨ (b = 5 ∧ (m = 1 ∨ m = 4)) ∨ (b = 4 ∧ m = 4)
def rIxD (b m : Nat) : R2 := fun x y H Q => ∃ (S : Sx) (O : Lab) (d e z : D), RepM b S O H d x ∧ Rep S.ds (LR O) H e y ∧ ixD d e = some z ∧ Res m S O H Q z
theorem TopL.get {S : Sx} {O : Lab} {H : Hp} : ∀ {xs : List D} {vs : List V} {i : Nat} {d : D}, TopL S O H xs vs → xs[i]? = some d → ∃ v, vs[i]? = some v ∧ Top S O H d v
  | _, _, _, _, .nil, e => by simp at e
  | _, _, 0, _, .cons r _, e => by simp at e; subst e; exact ⟨_, rfl, r⟩
  | _, _, i + 1, d, .cons _ t, e => by
    obtain ⟨v, h1, h2⟩ := TopL.get (i := i) (d := d) t (by simpa using e)
    exact ⟨v, by simpa using h1, h2⟩
theorem TopL.length {S : Sx} {O : Lab} {H : Hp} : ∀ {xs : List D} {vs : List V}, TopL S O H xs vs → xs.length = vs.length
  | _, _, .nil => rfl
  | _, _, .cons _ t => congrArg (· + 1) (TopL.length t)
/-- a list's item, in the mode that is asked -/
theorem lst_item {S : Sx} {O : Lab} {H : Hp} {b m : Nat} (hm : IxM b m) {xs : List D} {x : V} (h : RepM b S O H (.lst xs) x) : ∃ p vs, x = .ref p ∧ H p = some (.lst vs) ∧ xs.length = vs.length ∧ ∀ (j : Nat) (z : D), xs[j]? = some z → ∃ v, vs[j]? = some v ∧ RepM m S O H z v := by
  rcases hm with ⟨rfl, h1, h2⟩ | ⟨rfl, h1⟩ | ⟨rfl, rfl⟩
  · obtain ⟨p, vs, rfl, n, r, zl, i⟩ := h
    refine ⟨p, vs, rfl, r, i.length, fun j z e => ?_⟩
    obtain ⟨v, e1, r1⟩ := i.get e
    exact ⟨v, e1, RepM.val r1 h1 h2⟩
  · obtain ⟨p, vs, rfl, n, r, zl, i⟩ := h
    refine ⟨p, vs, rfl, r, i.length, fun j z e => ?_⟩
    obtain ⟨v, e1, r1⟩ := i.get e
    rcases h1 with rfl | rfl
    · exact ⟨v, e1, r1⟩
    · exact ⟨v, e1, RepM.deep r1.read (.inr rfl)⟩
  · have h' : Rep S.ds (LR O) H (.lst xs) x := h
    cases h' with
    | lst n r zl i =>
    refine ⟨_, _, rfl, r, i.length, fun j z e => ?_⟩
    obtain ⟨v, e1, r1⟩ := i.get e
    exact ⟨v, e1, RepM.deep r1 (.inr rfl)⟩
theorem tup_item {S : Sx} {O : Lab} {H : Hp} {b m : Nat} (hm : IxM b m) {xs : List D} {x : V} (h : RepM b S O H (.tup xs) x) : ∃ p vs, x = .ref p ∧ GT H p vs ∧ xs.length = vs.length ∧ ∀ (j : Nat) (z : D), xs[j]? = some z → ∃ v, vs[j]? = some v ∧ RepM m S O H z v := by
  have go : m ≠ 2 ∧ m ≠ 3 → Rep S.ds (LV O) H (.tup xs) x → ∃ p vs, x = .ref p ∧ GT H p vs ∧ xs.length = vs.length ∧ ∀ (j : Nat) (z : D), xs[j]? = some z → ∃ v, vs[j]? = some v ∧ RepM m S O H z v := fun hm h => by
    cases h with
    | tup r zl i =>
    refine ⟨_, _, rfl, r, i.length, fun j z e => ?_⟩
    obtain ⟨v, e1, r1⟩ := i.get e
    exact ⟨v, e1, RepM.val r1 hm.1 hm.2⟩
  rcases hm with ⟨rfl, h1, h2⟩ | ⟨rfl, h1⟩ | ⟨rfl, rfl⟩
  · exact go ⟨h1, h2⟩ h
  · exact go (by omega) h
  · have h' : Rep S.ds (LR O) H (.tup xs) x := h
    cases h' with
    | tup r zl i =>
    refine ⟨_, _, rfl, r, i.length, fun j z e => ?_⟩
    obtain ⟨v, e1, r1⟩ := i.get e
    exact ⟨v, e1, RepM.deep r1 (.inr rfl)⟩
theorem dK_item {S : Sx} {O : Lab} {H : Hp} {b m : Nat} (hm : IxM b m) {xs : List (Key × D)} {x : V} (h : RepM b S O H (.dK xs) x) : ∃ p vs, x = .ref p ∧ Rd H p (.dK vs) ∧ ∀ (k : Key), (dGet xs k = none ∧ valV vs k = none) ∨ ∃ d v, dGet xs k = some d ∧ valV vs k = some v ∧ RepM m S O H d v := by
  have go : ∀ {L : Addr → Prop} {vs : List (Key × V)}, RepK S.ds L H xs vs → (∀ d v, Rep S.ds L H d v → RepM m S O H d v) → ∀ (k : Key), (dGet xs k = none ∧ valV vs k = none) ∨ ∃ d v, dGet xs k = some d ∧ valV vs k = some v ∧ RepM m S O H d v := fun i f k => by
    rcases i.get k with h | ⟨d, v, h1, h2, h3⟩
    · exact .inl h
    · exact .inr ⟨d, v, h1, h2, f _ _ h3⟩
  rcases hm with ⟨rfl, h1, h2⟩ | ⟨rfl, h1⟩ | ⟨rfl, rfl⟩
  · obtain ⟨p, vs, rfl, n, r, zl, i⟩ := h
    exact ⟨p, vs, rfl, r, go i fun _ _ r => RepM.val r h1 h2⟩
  · have h' : Rep S.ds (LV O) H (.dK xs) x := h
    cases h' with
    | dK n r zl i => exact ⟨_, _, rfl, r, go i fun _ _ r => RepM.val r (by omega) (by omega)⟩
  · have h' : Rep S.ds (LR O) H (.dK xs) x := h
    cases h' with
    | dK n r zl i => exact ⟨_, _, rfl, r, go i fun _ _ r => RepM.deep r (.inr rfl)⟩
theorem dT_item {S : Sx} {O : Lab} {H : Hp} {b m : Nat} (hm : IxM b m) {xs : List (NestedKey × D)} {x : V} (h : RepM b S O H (.dT xs) x) : ∃ p vs L, x = .ref p ∧ Rd H p (tabO p vs) ∧ RepT S.ds L H xs vs ∧ ∀ (k : NestedKey), (dGet xs k = none ∧ tAt vs k = none) ∨ ∃ d c v, dGet xs k = some d ∧ tAt vs k = some (c, v) ∧ RepM m S O H d v := by
  have go : ∀ {L : Addr → Prop} {vs : List (NestedKey × Addr × V)}, RepT S.ds L H xs vs → (∀ d v, Rep S.ds L H d v → RepM m S O H d v) → ∀ (k : NestedKey), (dGet xs k = none ∧ tAt vs k = none) ∨ ∃ d c v, dGet xs k = some d ∧ tAt vs k = some (c, v) ∧ RepM m S O H d v := fun i f k => by
    rcases i.get k with h | ⟨d, c, v, h1, h2, h3⟩
    · exact .inl h
    · exact .inr ⟨d, c, v, h1, h2, f _ _ h3⟩
  rcases hm with ⟨rfl, h1, h2⟩ | ⟨rfl, h1⟩ | ⟨rfl, rfl⟩
  · obtain ⟨p, vs, rfl, n, r, zl, i⟩ := h
    exact ⟨p, vs, _, rfl, r, i, go i fun _ _ r => RepM.val r h1 h2⟩
  · have h' : Rep S.ds (LV O) H (.dT xs) x := h
    cases h' with
    | dT n r zl i => exact ⟨_, _, _, rfl, r, i, go i fun _ _ r => RepM.val r (by omega) (by omega)⟩
  · have h' : Rep S.ds (LR O) H (.dT xs) x := h
    cases h' with
    | dT n r zl i => exact ⟨_, _, _, rfl, r, i, go i fun _ _ r => RepM.deep r (.inr rfl)⟩
theorem Res.same {m : Nat} {S : Sx} {O : Lab} {H : Hp} {Q : VK} {d : D} {v : V} (h : Res m S O H Q d) (r : RepM m S O H d v) (hm : m ≠ 2 ∧ m ≠ 3) : Q v H := h O H v Ext.refl r (.old hm.1 hm.2)
theorem IxM.ne {b m : Nat} (h : IxM b m) : m ≠ 2 ∧ m ≠ 3 := by rcases h with h | h | h <;> omega
theorem ix_ok (hu : X.A.units + 64 < cLine) {b m : Nat} (hm : IxM b m) : IxR X (rIxD b m) := by
  intro value slice pins s σ H x y v u Q I rx ry ⟨S, O, d, e, z, h1, h2, h3, hz⟩ hs
  unfold ixD at h3
  split at h3
  · rename_i xs i
    obtain ⟨p, vs, rfl, r, el, f⟩ := lst_item hm h1
    cases h2
    obtain ⟨j, e1, e2⟩ := Option.bind_eq_some_iff.mp h3
    obtain ⟨w, e3, r3⟩ := f j z e2
    exact ix_list value slice pins s σ H _ _ v u Q I rx ry ⟨p, vs, i, w, rfl, rfl, SqL.of r, by unfold atI; rw [← el, show ixN xs.length i = some j from e1]; exact e3, hz.same r3 hm.ne⟩ hs
  · rename_i xs i
    obtain ⟨p, vs, rfl, r, el, f⟩ := tup_item hm h1
    cases h2
    obtain ⟨j, e1, e2⟩ := Option.bind_eq_some_iff.mp h3
    obtain ⟨w, e3, r3⟩ := f j z e2
    exact ix_tup value slice pins s σ H _ _ v u Q I rx ry ⟨p, vs, i, w, rfl, rfl, r.sq, by unfold atI; rw [← el, show ixN xs.length i = some j from e1]; exact e3, hz.same r3 hm.ne⟩ hs
  · rename_i kvs x'
    obtain ⟨p, vs, rfl, r, f⟩ := dK_item hm h1
    obtain ⟨k, e1, e2⟩ := Option.bind_eq_some_iff.mp h3
    obtain rfl := h2.key e1
    rcases f k with ⟨q1, _⟩ | ⟨d', w, q1, q2, r3⟩
    · rw [q1] at e2; cases e2
    · rw [q1] at e2; cases e2
      have g : DGet H p (kV k) (some w) := .inl ⟨vs, k, r, rfl, q2.symm⟩
      cases rx
      exact tail_any (ops := [.ref p, u]) (dict_typeIs I g) PySem.F.slot_dict_getitem.lookup (d_getItem (hu1 hu) I g ry fun w' s' I' rw' => ⟨w, H, I', rw', hz.same r3 hm.ne⟩) hs
  · rename_i kvs x'
    obtain ⟨p, vs, L, rfl, r, i, f⟩ := dT_item hm h1
    obtain ⟨k, e1, e2⟩ := Option.bind_eq_some_iff.mp h3
    obtain ⟨_, e3, _, _, ks⟩ := keyT_of e1
    rcases f k with ⟨q1, _⟩ | ⟨d', c, w, q1, q2, r3⟩
    · rw [q1] at e2; cases e2
    · rw [q1] at e2; cases e2
      cases rx
      have h2' : Rep S.ds (LR O) H (ofNK k) y := by rw [e3]; exact h2
      obtain ⟨lo, _, us, _, dd⟩ := tab_at I r i
      exact tail_any (ops := [.ref p, u]) dd.typeIs PySem.F.slot_dict_getitem.lookup (tb_get_any hu I r i h2' (keyT_ok e1) ks ry q2 fun w' s' I' rw' => ⟨w, H, I', rw', hz.same r3 hm.ne⟩) hs
  · cases h3

/-! slices -/
def rSlD (m : Nat) : V → Option Int → Option Int → Hp → VK → Prop := fun x lo hi H Q => ∃ (S : Sx) (O : Lab) (d z : D), RepM 1 S O H d x ∧ slD d lo hi = some z ∧ Res m S O H Q z
theorem cutD_rep {ds : Addr} {L : Addr → Prop} {H : Hp} {xs : List D} {vs : List V} (h : RepL ds L H xs vs) (lo hi : Option Int) : RepL ds L H (cutD xs lo hi) (cutV vs lo hi) := by
  unfold cutD cutV
  rw [h.length]
  exact (h.drop _).take _
theorem sl_ok {m : Nat} (hm : m ≠ 3) : SlR X (rSlD m) := by
  intro pins s σ H x v vl vu lo hi sl Q I rx hs pl pu ⟨S, O, d, z, h1, h2, hz⟩
  unfold slD at h2
  split at h2
  · rename_i xs
    cases h2
    obtain ⟨p, vs, rfl, n, r, zl, i⟩ := h1
    exact sl_list pins s σ H _ v vl vu lo hi sl Q I rx hs pl pu ⟨p, vs, rfl, SqL.of r, hz.lst hm (cutD_rep i lo hi) (Nat.le_trans (cutV_length _ _ _) zl)⟩
  · rename_i xs
    cases h2
    cases h1 with
    | tup r zl i =>
    rename_i p vs
    refine sl_tupG pins s σ H _ v vl vu lo hi sl Q I rx hs pl pu ⟨p, vs, rfl, r.sq, fun q => ?_, fun q => ?_⟩
    · refine hz.scal' ?_ rfl
      have e : cutD xs lo hi = xs := by
        unfold cutD
        rw [i.length]
        show (xs.drop (HT.sIx vs.length 0 lo)).take (HT.sIx vs.length vs.length hi - HT.sIx vs.length 0 lo) = xs
        rw [q.1, q.2, List.drop_zero]
        exact List.take_of_length_le (by rw [i.length]; omega)
      rw [e]
      exact .tup r zl i
    · exact hz.tup (cutD_rep i lo hi) (Nat.le_trans (cutV_length _ _ _) zl)
  · cases h2
end
end DL
/-! DL, part F: a tuple or a list from behind. -/
namespace DL
open PySem PySem.Spec PyProof.Rows L2
section
variable {prog : Program} {w : World} {A : Around} {E : Value → Shared → Prop} {s : Shared}
theorem fm_congr {α β : Type} {f g : α → Option β} : ∀ {l : List α}, (∀ x ∈ l, f x = g x) → l.filterMap f = l.filterMap g
  | [], _ => rfl
  | x :: l, h => by
    rw [List.filterMap_cons, List.filterMap_cons, h x List.mem_cons_self, fm_congr fun y hy => h y (List.mem_cons_of_mem _ hy)]
theorem rev_pick (items : Array Value) : ((List.range items.size).filterMap fun (m : Nat) => items[((items.size : Int) - 1 + (m : Int) * (-1)).toNat]?) = items.toList.reverse := by
  have e : (List.range items.size).filterMap (fun (m : Nat) => items[((items.size : Int) - 1 + (m : Int) * (-1)).toNat]?) = (List.range items.size).filterMap ((fun k => items[k]?) ∘ fun k => items.size - 1 - k) := by
    apply fm_congr
    intro k hk
    have := List.mem_range.mp hk
    show items[_]? = items[items.size - 1 - k]?
    congr 1
    omega
  rw [e, ← List.filterMap_map, PySem.W.krv_range, List.filterMap_reverse, PySem.W.krv_all]
theorem getItem_tuple_rev {t sl : Addr} {items : Array Value} {vl vu vs : Value} {Q : Value → Shared → Prop} (ht : IsTup s.heap t items) (hs : s.heap.IsSliceOf sl vl vu vs) (pl : IsPart vl none) (pu : IsPart vu none) (ps : IsPart vs (some (-1)))
    (h : Q (.ref s.heap.objs.size) { s with heap := s.heap.push { cls := .type "tuple", data := .seq items.toList.reverse.toArray } })
    (hsz : items.size ≤ sizeLine) : wpAny (model prog w) A (getItem (.ref t) (.ref sl)) Q E s := by
  have htake : sizeOk (.seq items.toList.reverse.toArray) := by
    show items.toList.reverse.toArray.size ≤ sizeLine
    rw [List.size_toArray, List.length_reverse, Array.length_toList]
    exact hsz
  obtain ⟨os, hos, hcs, hds⟩ := id hs
  have hTs : s.TypeIs (.ref sl) "slice" := ⟨os, hos, hcs⟩
  unfold getItem
  try with_reducible refine wpAny_holding ?_
  first | refine wpAny_bind (wpAny_pure ?_) | skip
  refine wpAny_bind (wpAny_sequenceKey ht.typeIs (by decide) ?_)
  refine wpAny_bind (wpAny_callSpecial?_slot (name := Str.ofString "__getitem__") ht.typeIs PyProof.Rows.slot_tuple_getitem
    (wpAny_call_entry PyProof.Rows.slot_tuple_getitem ht.typeIs entry_tuple_getitem ?_ (args_tuple_getitem _ _)))
  show wpAny _ _ (Builtin.Tuple.tupleItemsOf (.ref t) >>= _) _ _ s
  refine wpAny_bind (tupleItemsOf_ ht ?_)
  refine wpAny_bind (wpAny_typeOf hTs ?_)
  rw [if_pos (by decide)]
  have hap : ∀ {n : Nat} {Q : Int × Int × Nat → Shared → Prop}, Q ((n : Int) - 1, -1, n) s → wpAny (model prog w) A.in1 (Builtin.Slice.sliceApplied (.ref sl) (pure (n : Int))) Q (fun e s' => E e s') s := fun {n Q} h => by
    unfold Builtin.Slice.sliceApplied Builtin.Slice.sliceFields
    refine wpAny_bind (wpAny_bind (wpAny_field hos hds (x := vl) rfl (wpAny_bind (wpAny_field hos hds (x := vu) rfl (wpAny_bind (wpAny_field hos hds (x := vs) rfl (wpAny_pure ?_)))))))
    refine wpAny_bind (HT.slicePart_ ps ?_)
    show wpAny _ _ (if ((-1 : Int) == 0) = true then _ else _) _ _ s
    rw [if_neg (by decide)]
    refine wpAny_bind (HT.slicePart_ pl (wpAny_bind (HT.slicePart_ pu (wpAny_bind (wpAny_pure ?_)))))
    show wpAny _ _ (pure ((n : Int) - 1, (-1 : Int), Builtin.Slice.slicePlaces ((n : Int) - 1) (-1) (-1))) _ _ s
    have e : Builtin.Slice.slicePlaces ((n : Int) - 1) (-1) (-1) = n := by
      unfold Builtin.Slice.slicePlaces
      rw [if_neg (by decide)]
      simp only [Int.neg_neg, Int.ediv_one]
      split <;> omega
    rw [e]
    exact wpAny_pure h
  refine wpAny_bind (hap ?_)
  show wpAny _ _ (if ((items.size : Int) - 1 == 0 && (-1 : Int) == 1 && items.size == items.size) = true then _ else _) _ _ s
  rw [if_neg (by simp), rev_pick]
  first
    | exact wpAny_bind (m := Builtin.Tuple.tupleExact _) (wpAny_newObj_type (wpAny_pure ⟨_, rfl, wpAny_pure h⟩) htake)
    | exact wpAny_bind (m := Builtin.Tuple.tupleExact _) (wpAny_newObj_type (wpAny_bind (wpAny_pure (wpAny_pure ⟨_, rfl, wpAny_pure h⟩))) htake)
    | exact wpAny_bind (wpAny_bind (m := Builtin.Tuple.tupleExact _) (wpAny_newObj_type (wpAny_pure (wpAny_pure ⟨_, rfl, wpAny_pure h⟩)) htake))
    | exact wpAny_bind (wpAny_bind (m := Builtin.Tuple.tupleExact _) (wpAny_newObj_type (wpAny_pure ⟨_, rfl, wpAny_pure h⟩) htake))
end
section
variable {X : Cx}
/-- e[::-1] -/
def tRevD (m : Nat) (te : TE) : TE := fun σ H Q => te σ H fun x H1 => ∃ (S : Sx) (O : Lab) (d z : D), RepM 1 S O H1 d x ∧ revD d = some z ∧ Res m S O H1 Q z
theorem pe_rev {e : Expr} {te : TE} {k m : Nat} {p1 p2 p3 pos : Pos} (hm : m ≠ 3) (he : PE X e te) : PE X (.Subscript e (.Slice none none (some (.UnaryOp .USub (.Constant (.int 1) k p1) p2)) p3) pos) (tRevD m te) := by
  refine ⟨fun pins s σ H Q I h => ?_⟩
  refine Subscript_ (thn (he.run pins s σ H _ I h) fun v s1 ⟨x, H1, I1, r1, S, O, d, z, hd, hr, q⟩ => ?_)
  have hst : PO X (some (.UnaryOp .USub (.Constant (.int 1) k p1) p2)) (tPart (tUn (rU fun i => .int (-i)) (tC (.int 1)))) := po_some (pe_un un_neg pe_int)
  refine wpAny_Slice (thn (po_none.run pins s1 σ H1 (fun o H2 => o = none ∧ H2 = H1) I1 ⟨rfl, rfl⟩) fun vl s2 ⟨l, H2, I2, pl, el, e2⟩ => ?_)
  subst el e2
  refine thn (po_none.run pins s2 σ H2 (fun o H3 => o = none ∧ H3 = H2) I2 ⟨rfl, rfl⟩) fun vu s3 ⟨u, H3, I3, pu, eu, e3⟩ => ?_
  subst eu e3
  refine thn (hst.run pins s3 σ H3 (fun o H4 => o = some (-1) ∧ H4 = H3) I3 ⟨1, rfl, -1, rfl, rfl, rfl⟩) fun vs s4 ⟨o, H4, I4, ps, eo, e4⟩ => ?_
  subst eo e4
  have I5 : Inv X pins σ H4 { s4 with heap := s4.heap.push { cls := .type "slice", data := .fields #[vl, vu, vs] } } := I4.kept (t' := s4.toks) fun b ob q => Heap.get?_push_of_some _ q
  show wpAny (model X.prog X.w) X.A (subscriptTail e (.Slice none none (some (.UnaryOp .USub (.Constant (.int 1) k p1) p2)) p3) v (.ref s4.heap.objs.size)) (EP X pins σ Q) X.xe { s4 with heap := s4.heap.push { cls := .type "slice", data := .fields #[vl, vu, vs] } }
  unfold revD at hr
  split at hr
  · cases hr
    obtain ⟨p, us, rfl, n, r, zl, i⟩ := hd
    cases r1
    obtain ⟨its, rv, ht, hz⟩ := I5.list (SqL.of r)
    have hlen := rv.length
    refine tail_any (ops := [.ref p, .ref s4.heap.objs.size]) ht.isList.typeIs (PySem.slot_list_getitem.lookup) ?_ (by with_unfolding_all rfl)
    refine wpAny_getItem_list_slice ht.isList (Heap.IsSliceOf.new _ vl vu vs) pl pu ps (by decide) ?_ (by rw [List.size_toArray]; omega)
    rw [PySem.W.krv_pick]
    refine ⟨.ref _, _, I5.laid (t' := s4.toks) (o := .lst us.reverse) (fun b ob q => Heap.get?_push_of_some _ q) (Nat.le_refl _) ?_, rfl, q.lst hm i.reverse (by rw [List.length_reverse]; exact zl) _ (I5.hok.fresh (Nat.le_refl _))⟩
    exact ⟨by rw [List.length_reverse]; exact hz, _, 0, rv.reverse, Heap.get?_push_size _ rfl⟩
  · cases hr
    have hd' : Rep S.ds (LV O) H4 (.tup _) x := hd
    cases hd' with
    | @tup p us _ r zl i =>
    cases r1
    obtain ⟨its, rv, ht, hz⟩ := I5.tuple (r.sq (K := X.K))
    have hlen := rv.length
    refine tail_any (ops := [.ref p, .ref s4.heap.objs.size]) ht.typeIs (PyProof.Rows.slot_tuple_getitem.lookup) ?_ (by with_unfolding_all rfl)
    refine getItem_tuple_rev ht (Heap.IsSliceOf.new _ vl vu vs) pl pu ps ?_ (by rw [List.size_toArray]; omega)
    have := laidT0 I5 rv.reverse (by rw [List.length_reverse]; exact hz) (q.tup i.reverse (by rw [List.length_reverse]; exact zl))
    simpa using this
  · cases hr
end
end DL
/-! DL, part G: built-in functions on data. -/
namespace DL
open PySem PySem.Spec PyProof.Rows L2

/-- values that stand for data, in mode m -/
inductive RepMs (m : Nat) (S : Sx) (O : Lab) (H : Hp) : List D → List V → Prop
  | nil : RepMs m S O H [] []
  | cons {d : D} {v : V} {xs : List D} {vs : List V} : RepM m S O H d v → RepMs m S O H xs vs → RepMs m S O H (d :: xs) (v :: vs)
theorem RepMs.ext {m : Nat} {S : Sx} {O O' : Lab} {H H' : Hp} (x : Ext S O H O' H') : ∀ {ds : List D} {vs : List V}, RepMs m S O H ds vs → RepMs m S O' H' ds vs
  | _, _, .nil => .nil
  | _, _, .cons r t => .cons (r.ext x) (RepMs.ext x t)
theorem RepMs.val {S : Sx} {O : Lab} {H : Hp} : ∀ {ds : List D} {vs : List V}, RepMs 0 S O H ds vs → RepL S.ds (LV O) H ds vs
  | _, _, .nil => .nil
  | _, _, .cons r t => .cons r (RepMs.val t)

/-- the arguments' mode: a container read where its items go on, else read -/
def bfM : Bf → Nat
  | .tuple => 1
  | .list => 1
  | .sorted => 1
  | .dictT => 1
  | .dictK => 1
  | _ => 4
def rBlt (m : Nat) (f : Bf) : List V → Hp → VK → Prop := fun vs H Q => ∃ (S : Sx) (O : Lab) (ds : List D) (z : D), RepMs (bfM f) S O H ds vs ∧ bltD f ds = some z ∧ Res m S O H Q z
theorem RepMs.one {m : Nat} {S : Sx} {O : Lab} {H : Hp} {d : D} {vs : List V} (h : RepMs m S O H [d] vs) : ∃ v, vs = [v] ∧ RepM m S O H d v := by
  cases h with
  | cons r t => cases t; exact ⟨_, rfl, r⟩
theorem RepMs.two {m : Nat} {S : Sx} {O : Lab} {H : Hp} {d e : D} {vs : List V} (h : RepMs m S O H [d, e] vs) : ∃ v w, vs = [v, w] ∧ RepM m S O H d v ∧ RepM m S O H e w := by
  cases h with
  | cons r t =>
    cases t with
    | cons r' t => cases t; exact ⟨_, _, rfl, r, r'⟩
section
variable {X : Cx}
theorem vals_cons {x : V} {xs : List V} {us : List Value} (r : Vals (x :: xs) us) : ∃ u ws, us = u :: ws ∧ RelV x u ∧ Vals xs ws := by
  cases r with
  | cons h t => exact ⟨_, _, rfl, h, t⟩
theorem blt_len (m : Nat) : CallR X (.builtin "len") (rBlt m .len) := by
  intro pins s σ H vs us Q I r ⟨S, O, ds, z, h1, h2, hz⟩
  replace h2 : lenD ds = some z := h2
  unfold lenD at h2
  split at h2
  · cases h2
    obtain ⟨v, rfl, h⟩ := h1.one
    replace h : Rep S.ds (LR O) H _ v := h
    cases h with
    | lst l0 r1 zl i =>
    exact call_len pins s σ H _ us Q I r ⟨_, _, rfl, .inl ⟨_, SqL.of r1, i.length⟩, hz.scal (fun _ _ _ => .int _) rfl⟩
  · cases h2
    obtain ⟨v, rfl, h⟩ := h1.one
    replace h : Rep S.ds (LR O) H _ v := h
    cases h with
    | tup r1 zl i =>
    exact call_len pins s σ H _ us Q I r ⟨_, _, rfl, .inr ⟨_, r1.sq, i.length⟩, hz.scal (fun _ _ _ => .int _) rfl⟩
  · cases h2
    obtain ⟨v, rfl, h⟩ := h1.one
    replace h : Rep S.ds (LR O) H _ v := h
    cases h with
    | dK l0 r1 zl i =>
    obtain ⟨u, ws, rfl, ru, t⟩ := vals_cons r
    cases t
    cases ru
    refine d_len I r1 fun t s' I' => ?_
    rw [← i.length]
    exact ⟨.int _, H, I', ⟨t, rfl⟩, hz.scal (fun _ _ _ => .int _) rfl⟩
  · cases h2
    obtain ⟨v, rfl, h⟩ := h1.one
    replace h : Rep S.ds (LR O) H _ v := h
    cases h with
    | dT l0 r1 zl i =>
    obtain ⟨u, ws, rfl, ru, t⟩ := vals_cons r
    cases t
    cases ru
    refine tb_len I r1 zl i fun t s' I' => ?_
    rw [← i.length]
    exact ⟨.int _, H, I', ⟨t, rfl⟩, hz.scal (fun _ _ _ => .int _) rfl⟩
  · cases h2
theorem ints_of_vals' {ns : List Int} {us : List Value} (r : Vals (ns.map V.int) us) : PyProof.Rows.IntsAre us ns := Vals.ints r
theorem blt_sum (hc : X.calm = true) (m : Nat) : CallR X (.builtin "sum") (rBlt m .sum) := by
  intro pins s σ H vs us Q I r ⟨S, O, ds, z, h1, h2, hz⟩
  replace h2 : sumD ds = some z := h2
  unfold sumD at h2
  split at h2
  · obtain ⟨ns, e1, e2⟩ := Option.map_eq_some_iff.mp h2
    obtain rfl := toInts_eq e1
    subst e2
    obtain ⟨v, rfl, h⟩ := h1.one
    replace h : Rep S.ds (LR O) H _ v := h
    cases h with
    | lst l0 r1 zl i =>
    obtain rfl := i.ints
    exact cr_sum hc pins s σ H _ us Q I r ⟨_, ns, rfl, SqL.of r1, hz.scal (fun _ _ _ => .int _) rfl⟩
  · obtain ⟨ns, e1, e2⟩ := Option.map_eq_some_iff.mp h2
    obtain rfl := toInts_eq e1
    subst e2
    obtain ⟨v, rfl, h⟩ := h1.one
    replace h : Rep S.ds (LR O) H _ v := h
    cases h with
    | tup r1 zl i =>
    obtain rfl := i.ints
    obtain ⟨u, ws, rfl, ru, t⟩ := vals_cons r
    cases t
    cases ru
    obtain ⟨its, rv, ht, _⟩ := I.tuple (r1.sq (K := X.K))
    have hi := Vals.ints rv
    obtain ⟨xs, ex⟩ := hi.allInts.items
    have hn : numsOf (intItems xs).toList = ns := by rw [← ex]; exact hi.numsOf
    rw [nums_intItems] at hn
    rw [ex] at ht
    refine PySem.W.ktm_sumG (I.ok.hd hc) ht fun h' tk t' hk => ?_
    rw [preSum_eq, List.take_of_length_le (by simp), hn]
    exact ⟨.int _, H, I.kept hk, ⟨_, rfl⟩, hz.scal (fun _ _ _ => .int _) rfl⟩
  · cases h2
/-- a Python int read off -/
theorem reads_int {h : Heap} {v : Value} {n : Int} {as : List Addr} (r : Reads h v (.int n) as) : ∃ t, v = .int n t := by
  cases r with
  | int _ t => exact ⟨t, rfl⟩
theorem ints_depth : ∀ ns : List Int, PyData.depthAll (ns.map PyData.int) = 0
  | [] => rfl
  | n :: ns => by rw [List.map_cons, PyData.depthAll, ints_depth ns]; rfl
theorem ints_alike (ns : List Int) : PySem.W.AlikeAll (ns.map PyData.int) := by
  refine ⟨fun x hx y hy => ?_, fun x hx => ?_⟩
  · obtain ⟨a, _, rfl⟩ := List.mem_map.mp hx
    obtain ⟨b, _, rfl⟩ := List.mem_map.mp hy
    rfl
  · obtain ⟨a, _, rfl⟩ := List.mem_map.mp hx
    exact fun z => nomatch z
theorem ints_reads {h : Heap} : ∀ {ns : List Int} {us : List Value}, Vals (ns.map V.int) us → ∃ as, ReadsAll h us (ns.map PyData.int) as
  | [], _, r => by cases r; exact ⟨_, .nil⟩
  | n :: ns, _, r => by
    cases r with
    | cons r t =>
      obtain ⟨tk, rfl⟩ := r
      obtain ⟨as, h1⟩ := ints_reads (h := h) t
      exact ⟨_, .cons (.int n tk) h1⟩
theorem blt_max (hc : X.calm = true) (hu : X.A.units + 64 < cLine) (m : Nat) : CallR X (.builtin "max") (rBlt m .max1) := by
  intro pins s σ H vs us Q I r ⟨S, O, ds, z, h1, h2, hz⟩
  replace h2 : maxD1 ds = some z := h2
  unfold maxD1 at h2
  split at h2
  all_goals try (cases h2; done)
  all_goals
    obtain ⟨ns, e1, e2⟩ := Option.bind_eq_some_iff.mp h2
    obtain rfl := toInts_eq e1
    obtain ⟨v, rfl, h⟩ := h1.one
    replace h : Rep S.ds (LR O) H _ v := h
    obtain ⟨u, ws, rfl, ru, t⟩ := vals_cons r
    cases t
    obtain ⟨n, ns, rfl⟩ : ∃ n ns', ns = n :: ns' := by
      cases ns with
      | nil => simp at e2
      | cons n ns => exact ⟨n, ns, rfl⟩
    rw [if_neg (by simp)] at e2
    cases e2
    have ea := ints_alike (n :: ns)
    have ed := ints_depth (n :: ns)
  · cases h with
    | lst l0 r1 zl i =>
    obtain rfl := i.ints
    cases ru
    obtain ⟨its, rv, hl, _⟩ := I.list (SqL.of r1)
    obtain ⟨as, hr⟩ := ints_reads (h := s.heap) rv
    refine PySem.W.max_list_data (I.ok.hd hc) hl.isList (by simpa using hr) ea (by rw [show PyData.depthAll (PyData.int n :: ns.map PyData.int) = 0 from ed]; omega) fun j w h' tk bs _ hw hk => ?_
    rw [PySem.W.maxD_ints] at hw
    obtain ⟨t, rfl⟩ := reads_int hw
    exact ⟨.int _, H, I.kept hk, ⟨t, rfl⟩, hz.scal (fun _ _ _ => .int _) rfl⟩
  · cases h with
    | tup r1 zl i =>
    obtain rfl := i.ints
    cases ru
    obtain ⟨its, rv, hl, _⟩ := I.tuple (r1.sq (K := X.K))
    obtain ⟨as, hr⟩ := ints_reads (h := s.heap) rv
    refine PySem.W.max_tuple_data (I.ok.hd hc) (show s.heap.IsTuple _ _ from hl) (by simpa using hr) ea (by rw [show PyData.depthAll (PyData.int n :: ns.map PyData.int) = 0 from ed]; omega) fun j w h' tk bs _ hw hk => ?_
    rw [PySem.W.maxD_ints] at hw
    obtain ⟨t, rfl⟩ := reads_int hw
    exact ⟨.int _, H, I.kept hk, ⟨t, rfl⟩, hz.scal (fun _ _ _ => .int _) rfl⟩
theorem blt_min (hc : X.calm = true) (hu : X.A.units + 64 < cLine) (m : Nat) : CallR X (.builtin "min") (rBlt m .min1) := by
  intro pins s σ H vs us Q I r ⟨S, O, ds, z, h1, h2, hz⟩
  replace h2 : minD1 ds = some z := h2
  unfold minD1 at h2
  split at h2
  all_goals try (cases h2; done)
  all_goals
    obtain ⟨ns, e1, e2⟩ := Option.bind_eq_some_iff.mp h2
    obtain rfl := toInts_eq e1
    obtain ⟨v, rfl, h⟩ := h1.one
    replace h : Rep S.ds (LR O) H _ v := h
    obtain ⟨u, ws, rfl, ru, t⟩ := vals_cons r
    cases t
    obtain ⟨n, ns, rfl⟩ : ∃ n ns', ns = n :: ns' := by
      cases ns with
      | nil => simp at e2
      | cons n ns => exact ⟨n, ns, rfl⟩
    rw [if_neg (by simp)] at e2
    cases e2
    have ea := ints_alike (n :: ns)
    have ed := ints_depth (n :: ns)
  · cases h with
    | lst l0 r1 zl i =>
    obtain rfl := i.ints
    cases ru
    obtain ⟨its, rv, hl, _⟩ := I.list (SqL.of r1)
    obtain ⟨as, hr⟩ := ints_reads (h := s.heap) rv
    refine PySem.W.min_list_data (I.ok.hd hc) hl.isList (by simpa using hr) ea (by rw [show PyData.depthAll (PyData.int n :: ns.map PyData.int) = 0 from ed]; omega) fun j w h' tk bs _ hw hk => ?_
    rw [PySem.W.minD_ints] at hw
    obtain ⟨t, rfl⟩ := reads_int hw
    exact ⟨.int _, H, I.kept hk, ⟨t, rfl⟩, hz.scal (fun _ _ _ => .int _) rfl⟩
  · cases h with
    | tup r1 zl i =>
    obtain rfl := i.ints
    cases ru
    obtain ⟨its, rv, hl, _⟩ := I.tuple (r1.sq (K := X.K))
    obtain ⟨as, hr⟩ := ints_reads (h := s.heap) rv
    refine PySem.W.min_tuple_data (I.ok.hd hc) (show s.heap.IsTuple _ _ from hl) (by simpa using hr) ea (by rw [show PyData.depthAll (PyData.int n :: ns.map PyData.int) = 0 from ed]; omega) fun j w h' tk bs _ hw hk => ?_
    rw [PySem.W.minD_ints] at hw
    obtain ⟨t, rfl⟩ := reads_int hw
    exact ⟨.int _, H, I.kept hk, ⟨t, rfl⟩, hz.scal (fun _ _ _ => .int _) rfl⟩
theorem blt_max2 (hc : X.calm = true) (m : Nat) : CallR X (.builtin "max") (rBlt m .max2) := by
  intro pins s σ H vs us Q I r ⟨S, O, ds, z, h1, h2, hz⟩
  replace h2 : maxD2 ds = some z := h2
  unfold maxD2 at h2
  split at h2
  · cases h2
    obtain ⟨v, w, rfl, h, h'⟩ := h1.two
    replace h : Rep S.ds (LR O) H _ v := h
    replace h' : Rep S.ds (LR O) H _ w := h'
    cases h; cases h'
    exact call_max2 hc pins s σ H _ us Q I r ⟨_, _, rfl, hz.scal (fun _ _ _ => .int _) rfl⟩
  · cases h2
theorem blt_min2 (hc : X.calm = true) (m : Nat) : CallR X (.builtin "min") (rBlt m .min2) := by
  intro pins s σ H vs us Q I r ⟨S, O, ds, z, h1, h2, hz⟩
  replace h2 : minD2 ds = some z := h2
  unfold minD2 at h2
  split at h2
  · cases h2
    obtain ⟨v, w, rfl, h, h'⟩ := h1.two
    replace h : Rep S.ds (LR O) H _ v := h
    replace h' : Rep S.ds (LR O) H _ w := h'
    cases h; cases h'
    exact call_min2 hc pins s σ H _ us Q I r ⟨_, _, rfl, hz.scal (fun _ _ _ => .int _) rfl⟩
  · cases h2
theorem blt_abs (m : Nat) : CallR X (.builtin "abs") (rBlt m .abs) := by
  intro pins s σ H vs us Q I r ⟨S, O, ds, z, h1, h2, hz⟩
  replace h2 : absD ds = some z := h2
  unfold absD at h2
  split at h2
  · cases h2
    obtain ⟨v, rfl, h⟩ := h1.one
    replace h : Rep S.ds (LR O) H _ v := h
    cases h
    exact call_abs pins s σ H _ us Q I r ⟨_, rfl, hz.scal (fun _ _ _ => .int _) rfl⟩
  · cases h2
theorem blt_int (m : Nat) : CallR X (.type "int") (rBlt m .int) := by
  intro pins s σ H vs us Q I r ⟨S, O, ds, z, h1, h2, hz⟩
  replace h2 : intD ds = some z := h2
  unfold intD at h2
  split at h2
  · cases h2
    obtain ⟨v, rfl, h⟩ := h1.one
    replace h : Rep S.ds (LR O) H _ v := h
    cases h
    exact call_int1 pins s σ H _ us Q I r (.inl ⟨_, rfl, hz.scal (fun _ _ _ => .int _) rfl⟩)
  · cases h2
    obtain ⟨v, rfl, h⟩ := h1.one
    replace h : Rep S.ds (LR O) H _ v := h
    cases h
    exact call_int1 pins s σ H _ us Q I r (.inr ⟨_, rfl, hz.scal (fun _ _ _ => .int _) rfl⟩)
  · cases h2
theorem blt_all (hc : X.calm = true) (m : Nat) : CallR X (.builtin "all") (rBlt m .all) := by
  intro pins s σ H vs us Q I r ⟨S, O, ds, z, h1, h2, hz⟩
  replace h2 : allD ds = some z := h2
  unfold allD at h2
  split at h2
  · obtain ⟨ns, e1, e2⟩ := Option.map_eq_some_iff.mp h2
    obtain rfl := toBls_eq e1
    subst e2
    obtain ⟨v, rfl, h⟩ := h1.one
    replace h : Rep S.ds (LR O) H _ v := h
    cases h with
    | lst l0 r1 zl i =>
    obtain rfl := i.bls
    exact cr_all hc pins s σ H _ us Q I r ⟨_, ns, rfl, SqL.of r1, hz.scal (fun _ _ _ => .bl _) rfl⟩
  · cases h2
theorem blt_any (hc : X.calm = true) (m : Nat) : CallR X (.builtin "any") (rBlt m .any) := by
  intro pins s σ H vs us Q I r ⟨S, O, ds, z, h1, h2, hz⟩
  replace h2 : anyD ds = some z := h2
  unfold anyD at h2
  split at h2
  · obtain ⟨ns, e1, e2⟩ := Option.map_eq_some_iff.mp h2
    obtain rfl := toBls_eq e1
    subst e2
    obtain ⟨v, rfl, h⟩ := h1.one
    replace h : Rep S.ds (LR O) H _ v := h
    cases h with
    | lst l0 r1 zl i =>
    obtain rfl := i.bls
    exact cr_any hc pins s σ H _ us Q I r ⟨_, ns, rfl, SqL.of r1, hz.scal (fun _ _ _ => .bl _) rfl⟩
  · cases h2
theorem blt_tuple (m : Nat) : CallR X (.type "tuple") (rBlt m .tuple) := by
  intro pins s σ H vs us Q I r ⟨S, O, ds, z, h1, h2, hz⟩
  replace h2 : tupleD ds = some z := h2
  unfold tupleD at h2
  split at h2
  · cases h2
    obtain ⟨v, rfl, h⟩ := h1.one
    obtain ⟨p, ws, rfl, n, r1, zl, i⟩ := (show Top S O H (.lst _) v from h)
    exact call_tupG pins s σ H _ us Q I r ⟨p, ws, rfl, .inl ⟨SqL.of r1, hz.tup i zl⟩⟩
  · cases h2
    obtain ⟨v, rfl, h⟩ := h1.one
    replace h : Rep S.ds (LV O) H _ v := h
    cases h with
    | tup r1 zl i =>
    exact call_tupG pins s σ H _ us Q I r ⟨_, _, rfl, .inr ⟨r1.sq, hz.scal' (.tup r1 zl i) rfl⟩⟩
  · cases h2
end
end DL
/-! DL, part Gb: sorting tuples of which some may be empty. -/
namespace DL
open PySem PySem.Spec PyProof.Rows PySem.W PySem.Calls PySem.SeqAt
section
variable {prog : Program} {w : World} {A : Around} {s : Shared}
def hasOne : PyData → Bool
  | .tuple (_ :: _) => true
  | _ => false
theorem firsts_tups : ∀ {vs : List Value} {ds : List PyData}, EachIs (fun v d => ∃ as, Reads s.heap v d as) vs ds → (∀ d ∈ ds, ∃ xs, d = .tuple xs) → ∃ os : List (Option Value), os.map (·.isSome) = ds.map hasOne ∧ ∀ {E : Value → Shared → Prop} {Q : List (Option Value) → Shared → Prop}, Q os s → wpAny (model prog w) A (vs.mapM firstOfTuple') Q E s
  | _, _, .nil, _ => ⟨[], rfl, fun h => by rw [List.mapM_nil]; exact wpAny_pure h⟩
  | v :: vs, d :: ds, .cons ⟨as, r⟩ t, ht => by
    obtain ⟨os, h1, h2⟩ := firsts_tups t fun d hd => ht d (List.mem_cons_of_mem _ hd)
    obtain ⟨xs, rfl⟩ := ht d List.mem_cons_self
    cases r with
    | @tuple a o ys n _ _ ho hc hd hr =>
      refine ⟨ys[0]? :: os, ?_, fun {E Q} h => ?_⟩
      · rw [List.map_cons, List.map_cons, h1]
        congr 1
        cases xs with
        | nil =>
          cases e : ys.toList with
          | nil =>
            have : ys[0]? = none := by rw [← Array.getElem?_toList, e]; rfl
            rw [this]; rfl
          | cons f fr => rw [e] at hr; cases hr
        | cons x xs =>
          cases e : ys.toList with
          | nil => rw [e] at hr; cases hr
          | cons f fr =>
            have : ys[0]? = some f := by rw [← Array.getElem?_toList, e]; rfl
            rw [this]; rfl
      · rw [List.mapM_cons]
        refine wpAny_bind ?_
        rw [kas_first_eq]
        refine wpAny_bind (Looks.here (show Looks (model prog w) s.heap (typeOf (.ref a)) o.cls from (Looks.ld ho).andThen .now) ?_)
        rw [hc, if_neg (by first | decide | simp)]
        refine wpAny_bind (listItems_at ho hd (wpAny_pure ?_))
        exact wpAny_bind (h2 (Q := fun bs s' => wpAny (model prog w) A (pure (ys[0]? :: bs)) Q E s') (wpAny_pure h))
theorem oneLt_tups {E : Value → Shared → Prop} {da db : PyData} {a b : Value} {as bs : List Addr} {Q : Bool → Shared → Prop} {f : Bool} (ra : Reads s.heap a da as) (rb : Reads s.heap b db bs) (h : alike da db = true) (hn : da ≠ .none)
    (hu : A.units + min da.depth db.depth < cLine) (hq : Q (dataLt da db) s) : wpAny (model prog w) A (oneLt' f a b) Q E s := by
  cases f with
  | false => exact oneLt_alike (fun z => by cases z) ra rb h hn hu hq
  | true =>
    by_cases ht : ∃ xs, da = .tuple xs
    · obtain ⟨xs, rfl⟩ := ht
      cases db with
      | tuple ys =>
        have hal : alikeAll xs ys = true := by simpa [alike] using h
        cases ra with
        | @tuple l o vs n _ as₁ h1 h2 h3 h4 =>
          cases rb with
          | @tuple l' o' vs' n' _ bs₁ k1 k2 k3 k4 =>
            have n1 : vs.size = xs.length := by simpa using SeqAt.ReadsAll.length _ _ _ h4
            have n2 : vs'.size = ys.length := by simpa using SeqAt.ReadsAll.length _ _ _ k4
            rw [dataLt_tuple, ← firstLt_toks xs ys hal, ← n1, ← n2] at hq
            rw [oneLt'_eq]
            simp only [if_true]
            refine wpAny_bind (wpAny_cRoomFor (SeqAt.room_here hu) ?_)
            have he : ∀ j (j1 : j < vs.size) (j2 : j < vs'.size), SeqAt.EqAt A.in1 s vs[j] vs'[j] (pairEq xs ys j) := fun j j1 j2 => by
              have := eqAt_alikeAll xs ys A.in1 s vs.toList vs'.toList _ _ h4 k4 hal (SeqAt.room_in hu) j (by simpa using j1) (by simpa using j2)
              simpa using this
            have hr : ∀ j (j1 : j < vs.size) (j2 : j < vs'.size), pairEq xs ys j = false → SeqAt.RcLt A.in1 s vs[j] vs'[j] (dataLt (xs.getD j .none) (ys.getD j .none)) := fun j j1 j2 hj => by
              have := rcLt_alikeAll xs ys A.in1 s vs.toList vs'.toList _ _ h4 k4 hal (SeqAt.room_in hu) j (by simpa using j1) (by simpa using j2) hj
              simpa using this
            refine wpAny_bind (wpAny_callSpecialIfBound?_slot (T := "tuple") ⟨_, h1, h2⟩ F.slot_tuple_lt ?_)
            obtain ⟨cls, dd, data, sl⟩ := o
            obtain ⟨cls2, dd2, data2, sl2⟩ := o'
            simp only at h2 h3 k2 k3
            subst h2 h3 k2 k3
            exact call_meets F.slot_tuple_lt ⟨_, h1, rfl⟩ F.entry_tuple_lt (F.args_tuple_lt_2 _ _) (SeqAt.tuple_ltAt l l' vs vs' n n' dd dd2 sl sl2 (pairEq xs ys) (fun j => dataLt (xs.getD j .none) (ys.getD j .none))) ⟨h1, k1, he, hr, wpAny_truthy_bool hq⟩
      | _ => exact absurd h (by simp [alike])
    · exact oneLt_alike (fun _ xs e => ht ⟨xs, e⟩) ra rb h hn hu hq
/-- what sorted takes -/
def Sortable2 (ds : List PyData) : Prop := (∀ d ∈ ds, ∃ xs, d = .tuple xs) ∨ Sortable ds
theorem sortsAt_tups {vs : List Value} {ds : List PyData} (e : EachIs (fun v d => ∃ as, Reads s.heap v d as) vs ds) (hal : AllAlike ds) (ht : ∀ d ∈ ds, ∃ xs, d = .tuple xs) (hu : ∀ d, d ∈ ds → A.units + d.depth < cLine) : SortsAt prog w A s (dataKind s.heap ds) vs := by
  have room : ∀ {d d' : PyData}, d ∈ ds → A.units + min d.depth d'.depth < cLine := fun {d d'} hd => Nat.lt_of_le_of_lt (Nat.add_le_add_left (Nat.min_le_left _ _) _) (hu d hd)
  have hn : ∀ d ∈ ds, d ≠ .none := fun d hd z => by obtain ⟨xs, q⟩ := ht d hd; rw [z] at q; cases q
  have lt : ∀ f : Bool, ∀ (E : Value → Shared → Prop) (x y : Value) (a b : (dataKind s.heap ds).α) {Q : Bool → Shared → Prop}, (dataKind s.heap ds).keyOf x = some a → (dataKind s.heap ds).keyOf y = some b → Q ((dataKind s.heap ds).blt a b) s → wpAny (model prog w) A (oneLt' f x y) Q E s := by
    intro f E x y a b Q ha hb hq
    obtain ⟨d, as, hd, ra, rfl⟩ := dataKind_inv ha
    obtain ⟨d', as', hd', rb, rfl⟩ := dataKind_inv hb
    exact oneLt_tups ra rb (hal d hd d' hd') (hn d hd) (room hd) hq
  by_cases hall : ∀ d ∈ ds, ∃ x r, d = .tuple (x :: r)
  · exact SortsAt.data e hal (.inl hall) hu
  refine ⟨fun v hv => ?_, ?_⟩
  · obtain ⟨d, hd, as, r⟩ := e.left v hv
    exact ⟨_, dataKind_some hal hd r⟩
  · have hall2 : (ds.map hasOne).all id = false := by
      rw [Bool.eq_false_iff]
      intro z
      refine hall fun d hd => ?_
      rw [List.all_eq_true] at z
      have q := z (hasOne d) (List.mem_map.mpr ⟨d, hd, rfl⟩)
      obtain ⟨xs, rfl⟩ := ht d hd
      cases xs with
      | nil => cases q
      | cons x xs => exact ⟨_, _, rfl⟩
    obtain ⟨os, h1, h2⟩ := firsts_tups (prog := prog) (w := w) (A := A) e ht
    have hos : os.all (·.isSome) = false := by
      have : (os.map (·.isSome)).all id = false := by rw [h1]; exact hall2
      rw [List.all_map] at this
      exact this
    have hall3 : (os.toArray.all fun x => x.isSome) = false := by rw [List.all_toArray]; exact hos
    have h0' : os.toArray[0]? = os[0]? := by simp
    by_cases h0 : (os[0]?.bind id).isSome = true
    · refine ⟨general', fun E x y a b Q ha hb hq => lt false E x y a b ha hb hq, fun hl E Q hq => ?_⟩
      rw [kat_kind_eq, List.mapM_toArray, map_eq_pure_bind]
      refine wpAny_bind (wpAny_bind (h2 (wpAny_pure ?_)))
      rw [if_neg (by rw [hall3]; simp), if_pos (by rw [h0']; exact h0)]
      exact wpAny_pure hq
    · refine ⟨oneType', fun E x y a b Q ha hb hq => lt true E x y a b ha hb hq, fun hl E Q hq => ?_⟩
      rw [kat_kind_eq, List.mapM_toArray, map_eq_pure_bind]
      refine wpAny_bind (wpAny_bind (h2 (wpAny_pure ?_)))
      rw [if_neg (by rw [hall3]; simp), if_neg (by rw [h0']; exact h0)]
      rw [oneTypeOnly'_eq, List.mapM_toArray, map_eq_pure_bind]
      obtain ⟨v₁, rest, rfl⟩ : ∃ v₁ rest, vs = v₁ :: rest := by
        match vs, hl with
        | v₁ :: rest, _ => exact ⟨v₁, rest, rfl⟩
      have hT : ∀ v ∈ v₁ :: rest, Looks (model prog w) s.heap (typeOf v) (.type "tuple") := fun v hv => by
        obtain ⟨d, hd, as, r⟩ := e.left v hv
        obtain ⟨xs, rfl⟩ := ht d hd
        exact looks_reads r
      refine wpAny_bind (wpAny_bind (wpAny_bind (kas_mapM (r := Value.type "tuple") _ (fun v hv Q' hq => (hT v hv).here hq) (wpAny_pure ?_))))
      have hall4 : ((List.map (fun _ => Value.type "tuple") (v₁ :: rest)).toArray.all fun x => x == Value.type "tuple") = true := by
        simp only [List.all_toArray, List.all_map, List.all_eq_true]
        intro _ _
        exact beq_self_eq_true _
      have h5 : (List.map (fun _ => Value.type "tuple") (v₁ :: rest)).toArray[0]? = some (Value.type "tuple") := by simp
      rw [h5]
      simp only [hall4, if_true]
      exact wpAny_pure (wpAny_pure hq)
theorem sortsAt2 {vs : List Value} {ds : List PyData} (e : EachIs (fun v d => ∃ as, Reads s.heap v d as) vs ds) (hal : AllAlike ds) (hk : Sortable2 ds) (hu : ∀ d, d ∈ ds → A.units + d.depth < cLine) : SortsAt prog w A s (dataKind s.heap ds) vs := by
  rcases hk with h | h
  · exact sortsAt_tups e hal h hu
  · exact SortsAt.data e hal h hu
theorem list_sort2 {E : Value → Shared → Prop} {β : Type} {vs : List Value} {bs : List β} {enc : β → PyData} {R : Value → β → Prop} {a : Addr} {n : Nat} {Q : Value → Shared → Prop} (ho : s.heap.get? a = some (seqObj "list" vs.toArray n)) (e : EachIs R vs bs) (er : EachIs (fun v b => ∃ as, Reads s.heap v (enc b) as ∧ a ∉ as) vs bs) (hal : AllAlike (bs.map enc)) (hk : Sortable2 (bs.map enc)) (hL : bs.length ≤ sizeLine)
    (hu : ∀ b, b ∈ bs → A.units + 1 + (enc b).depth < cLine) (h : ∀ out, out.length = bs.length → EachIs R out (bs.mergeSort (dataLe false enc)) → Q .none { s with heap := sortedHeap s.heap a vs (List.toArray out) }) :
    wpAny (model prog w) A (call (.builtin "list.sort") [.ref a]) Q E s := by
  have er1 : EachIs (fun v b => ∃ as, Reads (sortingHeap s.heap a vs) v (enc b) as) vs bs := each_keepBut (h' := sortingHeap s.heap a vs) (fun _ _ hb q => sortingHeap_old hb q) (fun o q => by rw [ho] at q; rw [← Option.some.inj q]) hal er
  refine wpAny_call_entry slot_list_sort ⟨_, ho, rfl⟩ entry_list_sort (list_sort_vals (κ := dataKind (sortingHeap s.heap a vs) (bs.map enc)) ho (sortsAt2 (s := { s with heap := sortingHeap s.heap a vs }) (each_map (R := fun v d => ∃ as, Reads (sortingHeap s.heap a vs) v d as) enc er1) hal hk (bound_map hu)) (by rw [e.length]; exact hL) ⟨.none, rfl, ?_⟩) (args_list_sort _)
  exact h _ (by rw [sortVals_length false rfl]; exact e.length) (sortVals_data false e er1 hal)
end
end DL
/-! DL, part H: sorted, list, tuple of what can be collected. -/
namespace DL
open PySem PySem.Spec PyProof.Rows L2 PySem.W

mutual
theorem reads_old {h : Heap} : ∀ (d : PyData) (v : Value) (as : List Addr), d.plain = true → Reads h v d as → ∀ a ∈ as, a < h.objs.size
  | .none, _, _, _, r => by cases r; intro a ha; cases ha
  | .bool _, _, _, _, r => by cases r; intro a ha; cases ha
  | .int _, _, _, _, r => by cases r; intro a ha; cases ha
  | .str _, _, _, _, r => by cases r; intro a ha; cases ha
  | .list xs, _, _, p, r => by
    cases r with
    | list h1 h2 h3 h4 =>
      intro a ha
      rcases List.mem_cons.mp ha with rfl | ha
      · exact Heap.lt_size h1
      · exact readsAll_old xs _ _ (by rw [PyData.plain] at p; exact p) h4 a ha
  | .tuple xs, _, _, p, r => by
    cases r with
    | tuple h1 h2 h3 h4 => exact readsAll_old xs _ _ (by rw [PyData.plain] at p; exact p) h4
  | .dict _, _, _, p, _ => by rw [PyData.plain] at p; cases p
theorem readsAll_old {h : Heap} : ∀ (ds : List PyData) (vs : List Value) (as : List Addr), PyData.plainAll ds = true → ReadsAll h vs ds as → ∀ a ∈ as, a < h.objs.size
  | [], _, _, _, r => by cases r; intro a ha; cases ha
  | d :: ds, _, _, p, r => by
    rw [PyData.plainAll, Bool.and_eq_true] at p
    cases r with
    | cons h1 h2 =>
      intro a ha
      rcases List.mem_append.mp ha with ha | ha
      · exact reads_old d _ _ p.1 h1 a ha
      · exact readsAll_old ds _ _ p.2 h2 a ha
end
/-- a value stands for data through some V -/
def VR (S : Addr) (L : Addr → Prop) (H : Hp) (u : Value) (d : D) : Prop := ∃ v, RelV v u ∧ Rep S L H d v
theorem each_vr {S : Addr} {L : Addr → Prop} {H : Hp} : ∀ {ds : List D} {vs : List V} {us : List Value}, RepL S L H ds vs → Vals vs us → EachIs (VR S L H) us ds
  | _, _, _, .nil, r => by cases r; exact .nil
  | _, _, _, .cons h t, r => by
    cases r with
    | cons r1 r2 => exact .cons ⟨_, r1, h⟩ (each_vr t r2)
theorem vr_each {S : Addr} {L : Addr → Prop} {H : Hp} : ∀ {ds : List D} {us : List Value}, EachIs (VR S L H) us ds → ∃ vs, Vals vs us ∧ RepL S L H ds vs
  | _, _, .nil => ⟨[], .nil, .nil⟩
  | _, _, .cons ⟨v, r, h⟩ t => by
    obtain ⟨vs, h1, h2⟩ := vr_each t
    exact ⟨v :: vs, .cons r h1, .cons h h2⟩
theorem each_len {α β : Type} {R : α → β → Prop} : ∀ {as : List α} {bs : List β}, EachIs R as bs → as.length = bs.length
  | _, _, .nil => rfl
  | _, _, .cons _ t => congrArg (· + 1) (each_len t)
section
variable {X : Cx} {pins : List (Addr × Obj)} {σ : L2.St} {s : Shared} {H : Hp}
theorem each_reads (I : Inv X pins σ H s) {S : Addr} {L : Addr → Prop} {n : Nat} {h' : Heap} {b : Addr} (hk : ∀ a o, s.heap.get? a = some o → h'.get? a = some o) (hb : s.heap.objs.size ≤ b) : ∀ {ds : List D} {vs : List V} {us : List Value}, plains n ds = true → RepL S L H ds vs → Vals vs us →
    EachIs (fun v d => ∃ as, Reads h' v (toPy d) as ∧ b ∉ as) us ds
  | _, _, _, _, .nil, r => by cases r; exact .nil
  | _, _, _, p, .cons h t, r => by
    rw [plains, Bool.and_eq_true] at p
    cases r with
    | cons r1 r2 =>
      obtain ⟨as, q⟩ := h.reads I p.1 r1
      refine .cons ⟨as, PyProof.Rows.Reads.keeps hk q, fun hm => ?_⟩ (each_reads I hk hb p.2 t r2)
      exact absurd (reads_old _ _ _ (plain_py _ _ p.1).1 q _ hm) (Nat.not_lt.mpr hb)
theorem sortable_py {ds : List D} (h : sortable ds = true) : plains 50 ds = true ∧ AllAlike (ds.map toPy) ∧ Sortable2 (ds.map toPy) := by
  unfold sortable at h
  simp only [Bool.and_eq_true, Bool.or_eq_true, List.all_eq_true] at h
  obtain ⟨⟨h1, h2⟩, h3⟩ := h
  refine ⟨h1, fun x hx y hy => ?_, ?_⟩
  · obtain ⟨a, ha, rfl⟩ := List.mem_map.mp hx
    obtain ⟨b, hb, rfl⟩ := List.mem_map.mp hy
    exact alikeD_py a b (h2 a ha b hb)
  · rcases h3 with h3 | h3
    · refine .inl fun x hx => ?_
      obtain ⟨a, ha, rfl⟩ := List.mem_map.mp hx
      have q := h3 a ha
      cases a with
      | tup xs => exact ⟨_, by rw [toPy]⟩
      | _ => cases q
    · refine .inr (.inr fun x hx => ?_)
      obtain ⟨a, ha, rfl⟩ := List.mem_map.mp hx
      have q := h3 a ha
      cases a <;> first | (cases q; done) | (refine ⟨?_, ?_⟩ <;> simp [toPy])
theorem plains_mem {n : Nat} : ∀ {ds : List D}, plains n ds = true → ∀ d ∈ ds, plain n d = true
  | [], _, _, h => by cases h
  | d :: ds, p, x, h => by
    rw [plains, Bool.and_eq_true] at p
    rcases List.mem_cons.mp h with rfl | h
    · exact p.1
    · exact plains_mem p.2 x h
/-- sorted(x), x collected -/
theorem sorted_gen (hu : X.A.units + 64 < cLine) {E : Value → Shared → Prop} {u : Value} {Q : VK} {m : Nat} (hm : m ≠ 3) {ds : List D} (hs : sortable ds = true)
    (K : List V → Hp → Prop) (hcol : ∀ {Q' : List Value → Shared → Prop}, (∀ us vs H1 s1, Inv X pins σ H1 s1 → Vals vs us → us.length ≤ sizeLine → K vs H1 → Q' us s1) → wpAny (model X.prog X.w) X.A.in1 (collect u) Q' E s)
    (hK : ∀ vs H1, K vs H1 → ∃ S O1, RepL S.ds (LV O1) H1 ds vs ∧ Res m S O1 H1 Q (.lst (sortD ds))) :
    wpAny (model X.prog X.w) X.A (call (.builtin "sorted") [u]) (EP X pins σ Q) E s := by
  refine Calls.call_function_entry kind_sorted plain_sorted entry_sorted (args_sorted1 _) ?_
  unfold Builtin.«sorted»
  refine wpAny_bind (m := checkCount "sorted" 1 1 _) (wpAny_pure ?_)
  refine wpAny_bind (hcol fun us vs H1 s1 I1 rv hz k => ?_)
  refine wpAny_bind (wpAny_newList ?_ hz)
  obtain ⟨S, O1, rl, q⟩ := hK vs H1 k
  obtain ⟨p1, p2, p3⟩ := sortable_py hs
  have hk : ∀ a o, s1.heap.get? a = some o → (s1.heap.push { cls := .type "list", data := .seq us.toArray }).get? a = some o := fun a o e => Heap.get?_push_of_some _ e
  have e1 := each_vr (S := S.ds) (L := LV O1) rl rv
  have e2 := each_reads I1 hk (Nat.le_refl _) p1 rl rv
  have el : us.length = ds.length := each_len e1
  refine wpAny_bind (wpAny_holding ?_)
  refine list_sort2 (s := { s1 with heap := s1.heap.push { cls := .type "list", data := .seq us.toArray } }) (enc := toPy) (Heap.get?_push_size _ rfl) e1 e2 p2 p3 (by omega) (fun b hb => ?_) fun out ho eo => ?_
  · have := (plain_py _ _ (plains_mem p1 b hb)).2
    show X.A.units + 1 + 1 + (toPy b).depth < cLine
    omega
  · refine wpAny_pure ⟨_, rfl, ?_⟩
    obtain ⟨ws, rw', rr⟩ := vr_each eo
    obtain ⟨c, hc⟩ := sortedHeap_at (h := s1.heap.push { cls := .type "list", data := .seq us.toArray }) (a := s1.heap.objs.size) (vs := us) (out := out.toArray) (Heap.get?_push_size _ rfl)
    have hz' : ws.length ≤ sizeLine := by rw [rw'.length, ho]; omega
    refine ⟨.ref s1.heap.objs.size, _, I1.laid (t' := s1.toks) (o := .lst ws) (fun b ob e => ?_) (Nat.le_refl _) ?_, rfl, q.lst hm rr hz' _ I1.fresh⟩
    · have e' : (s1.heap.push { cls := .type "list", data := .seq us.toArray }).get? b = some ob := Heap.get?_push_of_some _ e
      exact (sortedHeap_old (Nat.ne_of_lt (Heap.lt_size e)) (Heap.lt_size e')).trans e'
    · exact ⟨hz', out, c, rw', hc⟩
end
end DL
/-! DL, part J: the text against the small language; modes. -/
namespace DL
open PySem PySem.Spec PyProof.Rows L2

/-- what is seen of a text: the names by slot, the scope, whose cells are made here -/
structure SC where
  N : List Str
  sc : Scope
  fn : Str → Bool
def visB (sc : Scope) (x : Str) : Bool := match sc.names.lookup x with
  | some .local => true
  | some .cell => true
  | some .free => true
  | _ => false
def glB (sc : Scope) (x : Str) : Bool := match sc.names.lookup x with
  | some .globalImplicit => true
  | _ => false
def nmOk (x : Str) : Bool := !(x == ("__debug__" : Str)) && !(x == ("__classdict__" : Str)) && !decide (x = ("__name__" : Str))
/-- a name that may be stored at slot i -/
def stoB (c : SC) (i : Nat) (x : Str) : Bool := decide (c.N[i]? = some x) && (match c.sc.names.lookup x with
  | some .local => true
  | some .cell => c.fn x
  | _ => false)
def varB (c : SC) (i : Nat) (x : Str) : Bool := decide (c.N[i]? = some x) && visB c.sc x && nmOk x
def bfName : Bf → Str
  | .len => "len"
  | .sum => "sum"
  | .max1 => "max"
  | .min1 => "min"
  | .max2 => "max"
  | .min2 => "min"
  | .abs => "abs"
  | .int => "int"
  | .all => "all"
  | .any => "any"
  | .tuple => "tuple"
  | .list => "list"
  | .sorted => "sorted"
  | .dictT => "dict"
  | .dictK => "dict"
def sfName : Sf → Str
  | .tup => "tuple"
  | .lst => "list"
  | .srt => "sorted"
def mtName : Mt → Str
  | .index => "index"
  | .get1 => "get"
  | .get2 => "get"
  | .count => "count"
def clName : Cl → Str
  | .int => "int"
  | .bool => "bool"
  | .tuple => "tuple"
  | .list => "list"
  | .str => "str"
/-- the scope of a block within -/
def subSC (c : SC) (scope : Scope) : SC := ⟨c.N, relS scope c.sc, fun x => scope.names.lookup x == some .cell⟩
def ownOf (N : List Str) (own : List Nat) : List (Str × Nat) := own.filterMap fun i => (N[i]?).map fun x => (x, i)
def mPat (c : SC) : Pat → Expr → Bool
  | .p i, .Name x _ => stoB c i x
  | .pn is, .Tuple es _ _ => decide (is.length = es.length) && (is.zip es).all fun p => match p.2 with
    | .Name x _ => stoB c p.1 x
    | _ => false
  | _, _ => false
def isStar : Expr → Bool
  | .Starred _ _ => true
  | _ => false
def skName : Sk → Str
  | .left => "left"
  | .mixed => "mixed"
  | .turn => "turn"
/-- x[text], x the variable at slot i -/
def srcSub (c : SC) (i : Nat) (s : Str) : Expr → Bool
  | .Subscript (.Name x _) (.Constant (.str s') _ _) _ => varB c i x && (s' == s)
  | _ => false
mutual
def mE (c : SC) : Ex → Expr → Bool
  | .v i, .Name x _ => varB c i x
  | .non, .Constant .none _ _ => true
  | .bl b, .Constant (.bool b') _ _ => b == b'
  | .int z, .Constant (.int z') _ _ => z == z'
  | .str s, .Constant (.str s') _ _ => s == s'
  | .tup es, .Tuple es' _ _ => mXs c es es'
  | .lst es, .List es' _ => mXs c es es'
  | .dnil _, .Dict [] [] _ => true
  | .bin o a b, .BinOp l o' r _ => (o' == toOp o) && (mE c a l && mE c b r)
  | .neg a, .UnaryOp .USub e _ => mE c a e
  | .nt a, .UnaryOp .Not e _ => mE c a e
  | .and es, .BoolOp .And es' _ => mXs c es es' && (!es'.isEmpty && !es'.any isStar)
  | .or es, .BoolOp .Or es' _ => mXs c es es' && (!es'.isEmpty && !es'.any isStar)
  | .ite t a b, .IfExp t' a' b' _ => mE c t t' && (mE c a a' && mE c b b')
  | .cmp o a b, .Compare l [o'] [r] _ => (o' == toCmp o) && (mE c a l && mE c b r)
  | .cmp2 o p a b d, .Compare l [o', p'] [r, q] _ => (o' == toCmp o) && (p' == toCmp p) && (mE c a l && (mE c b r && mE c d q))
  | .ix a i, .Subscript v s _ => mE c a v && mE c i s
  | .sl a lo hi, .Subscript v (.Slice lo' hi' none _) _ => mE c a v && (mEo c lo lo' && mEo c hi hi')
  | .rev a, .Subscript v (.Slice none none (some (.UnaryOp .USub (.Constant (.int z) _ _) _)) _) _ => (z == 1) && mE c a v
  | .call f es, .Call (.Name x _) args [] _ => (x == f) && (glB c.sc x && nmOk x) && (mXs c es args && (!args.isEmpty && !args.any isStar))
  | .blt f es, .Call (.Name x _) args [] _ => (x == bfName f) && (glB c.sc x) && (mXs c es args && (!args.isEmpty && !args.any isStar))
  | .seq f it, .Call (.Name x _) [e] [] _ => (x == sfName f) && (glB c.sc x) && mIt c it e
  | .mth m o es, .Call (.Attribute o' x apos) args [] cpos => (x == mtName m) && (apos.endLine == cpos.line) && (mE c o o' && (mXs c es args && (!args.isEmpty && !args.any isStar) && decide (args.length < 5)))
  | .isin a k, .Call (.Name x _) [a', .Name y _] [] _ => (x == ("isinstance" : Str)) && (glB c.sc x) && ((y == clName k) && (glB c.sc y)) && mE c a a'
  | .sg i k, .Subscript (.Name x _) (.Constant (.str s') _ _) _ => varB c i x && (s' == skName k)
  | .comp p it ifs e own, .ListComp e' [⟨tg, iter, ifs', z⟩] scope _ => (z == 0) && (mIt c it iter) && (blkC c.N c.sc scope (ownOf c.N own) && decide ((ownOf c.N own).map (·.2) = own)) &&
      (mPat (subSC c scope) p tg && (mXs (subSC c scope) ifs ifs' && decide (ifs'.length ≤ 1) && !ifs'.any isStar && mE (subSC c scope) e e'))
  | _, _ => false
def mEo (c : SC) : Eo → Option Expr → Bool
  | .no, none => true
  | .yes e, some e' => mE c e e'
  | _, _ => false
def mXs (c : SC) : Xs → List Expr → Bool
  | .nil, [] => true
  | .cons true e es, .Starred e' _ :: es' => mE c e e' && mXs c es es'
  | .cons false e es, e' :: es' => (!isStar e') && (mE c e e' && mXs c es es')
  | _, _ => false
def mIt (c : SC) : It → Expr → Bool
  | .seq e, e' => mE c e e'
  | .rng1 a, .Call (.Name x _) [a'] [] _ => (x == ("range" : Str)) && glB c.sc x && mE c a a'
  | .rng2 a b, .Call (.Name x _) [a', b'] [] _ => (x == ("range" : Str)) && glB c.sc x && (mE c a a' && mE c b b')
  | .rng3 a b d, .Call (.Name x _) [a', b', d'] [] _ => (x == ("range" : Str)) && glB c.sc x && (mE c a a' && (mE c b b' && mE c d d'))
  | .enum e, .Call (.Name x _) [e'] [] _ => (x == ("enumerate" : Str)) && glB c.sc x && mE c e e'
  | .zip a b, .Call (.Name x _) [a', b'] [] _ => (x == ("zip" : Str)) && glB c.sc x && (mE c a a' && mE c b b')
  | .keys e, e' => mE c e e'
  | .items e, .Call (.Attribute e' x apos) [] [] cpos => (x == ("items" : Str)) && (apos.endLine == cpos.line) && mE c e e'
  | _, _ => false
end

/-! ### modes -/
def bfArg : Bf → Nat := bfM
def mtArg : Mt → Nat
  | .get1 => 0
  | .get2 => 0
  | _ => 4
def mtBase : Mt → Nat
  | .get1 => 1
  | .get2 => 1
  | _ => 4
def ixBase (T : Tags) (m : Nat) : Ex → Nat
  | .v j => if m == 4 then 4 else if 2 ≤ tg T j then 5 else 1
  | _ => if m == 4 then 4 else 1
/-- what tuple(..), list(..), sorted(..) may walk here -/
def seqOk : Sf → It → Bool
  | .tup, .rng1 _ => true
  | .tup, .rng2 _ _ => true
  | .tup, .rng3 _ _ _ => true
  | .lst, .rng1 _ => true
  | .lst, .rng2 _ _ => true
  | .lst, .rng3 _ _ _ => true
  | .srt, .items _ => true
  | _, _ => false
/-- a pattern that may take what is walked -/
def patOk : Pat → It → Bool
  | .pn _, _ => true
  | .p _, .seq _ => true
  | .p _, .rng1 _ => true
  | .p _, .rng2 _ _ => true
  | .p _, .rng3 _ _ _ => true
  | .p _, .keys _ => true
  | _, _ => false
/-- items of a variable's dict alone -/
def itemsV : It → Bool
  | .items (.v _) => true
  | .items _ => false
  | .keys (.v _) => true
  | .keys _ => false
  | _ => true
def patSlots : Pat → List Nat
  | .p i => [i]
  | .pn is => is
/-- an expression that makes a list -/
def lstE : Ex → Bool
  | .lst _ => true
  | .comp _ _ _ _ _ => true
  | .bin .mul (.lst _) _ => true
  | _ => false
def bfOk : Bf → Bool
  | .dictK => false
  | _ => true
mutual
def okE (F : Str → Bool) (T : Tags) : Nat → Ex → Bool
  | m, .v i => match m with
    | 0 => tg T i == 0
    | 1 => decide (tg T i ≤ 1)
    | 2 => false
    | 3 => false
    | 4 => true
    | 5 => (tg T i == 0) || decide (2 ≤ tg T i)
    | _ => false
  | _, .non => true
  | _, .bl _ => true
  | _, .int _ => true
  | _, .str _ => true
  | _, .tup es => okXs F T 0 es
  | m, .lst es => (m != 3) && okXs F T 0 es
  | m, .dnil _ => m != 3
  | m, .bin _ a b => (m != 3) && (okE F T 1 a && okE F T 1 b)
  | _, .neg a => okE F T 4 a
  | _, .nt a => okE F T 4 a
  | _, .and es => okXs F T 4 es
  | _, .or es => okXs F T 4 es
  | m, .ite c a b => okE F T 4 c && (okE F T m a && okE F T m b)
  | _, .cmp _ a b => okE F T 4 a && okE F T 4 b
  | _, .cmp2 _ _ a b c => okE F T 4 a && (okE F T 4 b && okE F T 4 c)
  | m, .ix a i => ((m == 0) || (m == 1) || (m == 4)) && (okE F T (ixBase T m a) a && okE F T 4 i) && ((ixBase T m a != 5) || (m != 0))
  | m, .sl a lo hi => (m != 3) && (okE F T 1 a && (okEo F T lo && okEo F T hi))
  | m, .rev a => (m != 3) && okE F T 1 a
  | m, .call f es => ((m != 3) && ((m != 2) || F f)) && okXs F T 0 es
  | m, .blt f es => (m != 3) && (bfOk f && okXs F T (bfM f) es)
  | m, .seq f it => (m != 3) && (seqOk f it && okIt F T 1 it)
  | m, .mth k o es => ((m == 0) || (m == 1) || (m == 4)) && (okE F T (mtBase k) o && okXs F T (mtArg k) es)
  | _, .isin a _ => okE F T 4 a
  | _, .sg i _ => tg T i == 0
  | m, .comp p it ifs e own => ((patOk p it && itemsV it) && (((m != 3) || lstE e) && (patSlots p).all fun i => own.contains i)) && okIt F T 1 it && (own.all fun i => tg T i == 0) && (okXs F T 4 ifs && okE F T (if m == 3 then 2 else 0) e)
def okEo (F : Str → Bool) (T : Tags) : Eo → Bool
  | .no => true
  | .yes e => okE F T 4 e
def okXs (F : Str → Bool) (T : Tags) : Nat → Xs → Bool
  | _, .nil => true
  | m, .cons s e es => (!s || decide (m = 0) || decide (m = 1) || decide (m = 4)) && (okE F T (if s = true then 1 else m) e && okXs F T m es)
/-- k: the mode of what is walked -/
def okIt (F : Str → Bool) (T : Tags) : Nat → It → Bool
  | k, .seq e => okE F T k e
  | _, .rng1 a => okE F T 4 a
  | _, .rng2 a b => okE F T 4 a && okE F T 4 b
  | _, .rng3 a b c => okE F T 4 a && (okE F T 4 b && okE F T 4 c)
  | k, .enum e => okE F T k e
  | k, .zip a b => okE F T k a && okE F T k b
  | k, .items e => okE F T k e
  | k, .keys e => okE F T k e
end
end DL
/-! DL, part K: what a match says of the text. -/
namespace DL
open PySem PySem.Spec PyProof.Rows L2
section
variable {c : SC} {e : Expr}
theorem iv_v {i : Nat} (h : mE c (.v i) e = true) : ∃ x p, e = .Name x p ∧ varB c i x = true := by
  unfold mE at h
  split at h <;> (try simp_all)
theorem iv_non  (h : mE c .non e = true) : ∃ k p, e = .Constant .none k p := by
  unfold mE at h
  split at h <;> (try simp_all)
theorem iv_bl {b : Bool} (h : mE c (.bl b) e = true) : ∃ k p, e = .Constant (.bool b) k p := by
  unfold mE at h
  split at h <;> (try simp_all)
theorem iv_int {z : Int} (h : mE c (.int z) e = true) : ∃ k p, e = .Constant (.int z) k p := by
  unfold mE at h
  split at h <;> (try simp_all)
theorem iv_str {z : Str} (h : mE c (.str z) e = true) : ∃ k p, e = .Constant (.str z) k p := by
  unfold mE at h
  split at h <;> (try simp_all)
theorem iv_tup {es : Xs} (h : mE c (.tup es) e = true) : ∃ es' k p, e = .Tuple es' k p ∧ mXs c es es' = true := by
  unfold mE at h
  split at h <;> (try simp_all)
theorem iv_lst {es : Xs} (h : mE c (.lst es) e = true) : ∃ es' p, e = .List es' p ∧ mXs c es es' = true := by
  unfold mE at h
  split at h <;> (try simp_all)
theorem iv_dnil {t : Bool} (h : mE c (.dnil t) e = true) : ∃ p, e = .Dict [] [] p := by
  unfold mE at h
  split at h <;> (try simp_all)
theorem iv_bin {o : Bop} {a b : Ex} (h : mE c (.bin o a b) e = true) : ∃ l r p, e = .BinOp l (toOp o) r p ∧ mE c a l = true ∧ mE c b r = true := by
  unfold mE at h
  split at h <;> (try simp_all)
  exact ⟨_, _, ⟨rfl, rfl⟩, h.2⟩
theorem iv_neg {a : Ex} (h : mE c (.neg a) e = true) : ∃ l p, e = .UnaryOp .USub l p ∧ mE c a l = true := by
  unfold mE at h
  split at h <;> (try simp_all)
theorem iv_nt {a : Ex} (h : mE c (.nt a) e = true) : ∃ l p, e = .UnaryOp .Not l p ∧ mE c a l = true := by
  unfold mE at h
  split at h <;> (try simp_all)
theorem iv_and {es : Xs} (h : mE c (.and es) e = true) : ∃ es' p, e = .BoolOp .And es' p ∧ mXs c es es' = true ∧ es' ≠ [] ∧ es'.any isStar = false := by
  unfold mE at h
  split at h <;> (try simp_all)
theorem iv_or {es : Xs} (h : mE c (.or es) e = true) : ∃ es' p, e = .BoolOp .Or es' p ∧ mXs c es es' = true ∧ es' ≠ [] ∧ es'.any isStar = false := by
  unfold mE at h
  split at h <;> (try simp_all)
theorem iv_ite {t a b : Ex} (h : mE c (.ite t a b) e = true) : ∃ t' l r p, e = .IfExp t' l r p ∧ mE c t t' = true ∧ mE c a l = true ∧ mE c b r = true := by
  unfold mE at h
  split at h <;> (try simp_all)
  exact ⟨_, _, _, ⟨rfl, rfl, rfl⟩, h⟩
theorem iv_cmp {o : Cop} {a b : Ex} (h : mE c (.cmp o a b) e = true) : ∃ l r p, e = .Compare l [toCmp o] [r] p ∧ mE c a l = true ∧ mE c b r = true := by
  unfold mE at h
  split at h <;> (try simp_all)
  exact ⟨_, _, ⟨rfl, rfl⟩, h.2⟩
theorem iv_cmp2 {o o' : Cop} {a b d : Ex} (h : mE c (.cmp2 o o' a b d) e = true) : ∃ l r q p, e = .Compare l [toCmp o, toCmp o'] [r, q] p ∧ mE c a l = true ∧ mE c b r = true ∧ mE c d q = true := by
  unfold mE at h
  split at h <;> (try simp_all)
  exact ⟨_, _, _, ⟨rfl, rfl, rfl⟩, h.2⟩
theorem iv_ix {a i : Ex} (h : mE c (.ix a i) e = true) : ∃ l r p, e = .Subscript l r p ∧ mE c a l = true ∧ mE c i r = true := by
  unfold mE at h
  split at h <;> (try simp_all)
  exact ⟨_, _, ⟨rfl, rfl⟩, h⟩
theorem iv_sl {a : Ex} {lo hi : Eo} (h : mE c (.sl a lo hi) e = true) : ∃ l lo' hi' q p, e = .Subscript l (.Slice lo' hi' none q) p ∧ mE c a l = true ∧ mEo c lo lo' = true ∧ mEo c hi hi' = true := by
  unfold mE at h
  split at h <;> (try simp_all)
  exact ⟨_, _, _, ⟨rfl, rfl, rfl⟩, h⟩
theorem iv_rev {a : Ex} (h : mE c (.rev a) e = true) : ∃ l k p1 p2 p3 p, e = .Subscript l (.Slice none none (some (.UnaryOp .USub (.Constant (.int 1) k p1) p2)) p3) p ∧ mE c a l = true := by
  unfold mE at h
  split at h <;> (try simp_all)
theorem iv_call {f : Str} {es : Xs} (h : mE c (.call f es) e = true) : ∃ q es' p, e = .Call (.Name f q) es' [] p ∧ glB c.sc f = true ∧ nmOk f = true ∧ mXs c es es' = true ∧ es' ≠ [] ∧ es'.any isStar = false := by
  unfold mE at h
  split at h <;> (try simp_all)
  obtain ⟨⟨rfl, h1, h2⟩, h3⟩ := h
  exact ⟨_, _, ⟨rfl, rfl⟩, h1, h2, h3⟩
theorem iv_blt {f : Bf} {es : Xs} (h : mE c (.blt f es) e = true) : ∃ q es' p, e = .Call (.Name (bfName f) q) es' [] p ∧ glB c.sc (bfName f) = true ∧ mXs c es es' = true ∧ es' ≠ [] ∧ es'.any isStar = false := by
  unfold mE at h
  split at h <;> (try simp_all)
  obtain ⟨⟨rfl, h1⟩, h3⟩ := h
  exact ⟨_, _, ⟨rfl, rfl⟩, h1, h3⟩
theorem iv_seq {f : Sf} {it : It} (h : mE c (.seq f it) e = true) : ∃ q e' p, e = .Call (.Name (sfName f) q) [e'] [] p ∧ glB c.sc (sfName f) = true ∧ mIt c it e' = true := by
  unfold mE at h
  split at h <;> (try simp_all)
  obtain ⟨⟨rfl, h1⟩, h3⟩ := h
  exact ⟨_, _, ⟨rfl, rfl⟩, h1, h3⟩
theorem iv_mth {m : Mt} {o : Ex} {es : Xs} (h : mE c (.mth m o es) e = true) : ∃ o' ap es' p, e = .Call (.Attribute o' (mtName m) ap) es' [] p ∧ (ap.endLine == p.line) = true ∧ mE c o o' = true ∧ mXs c es es' = true ∧ es' ≠ [] ∧ es'.any isStar = false ∧ es'.length < 5 := by
  unfold mE at h
  split at h <;> (try simp_all)
  obtain ⟨⟨rfl, h1⟩, h2, ⟨h3, h4⟩, h5⟩ := h
  exact ⟨_, _, _, _, ⟨⟨rfl, rfl⟩, rfl, rfl⟩, h1, h2, h3, h4.1, h4.2, h5⟩
theorem iv_isin {a : Ex} {k : Cl} (h : mE c (.isin a k) e = true) : ∃ q a' r p, e = .Call (.Name "isinstance" q) [a', .Name (clName k) r] [] p ∧ glB c.sc "isinstance" = true ∧ glB c.sc (clName k) = true ∧ mE c a a' = true := by
  unfold mE at h
  split at h <;> (try simp_all)
  obtain ⟨⟨⟨rfl, h1⟩, ⟨rfl, h2⟩⟩, h3⟩ := h
  exact ⟨_, _, ⟨rfl, rfl⟩, h1, h2, h3⟩
theorem iv_sg {i : Nat} {k : Sk} (h : mE c (.sg i k) e = true) : ∃ x q j r p, e = .Subscript (.Name x q) (.Constant (.str (skName k)) j r) p ∧ varB c i x = true := by
  unfold mE at h
  split at h <;> (try simp_all)
theorem iv_comp {p : Pat} {it : It} {ifs : Xs} {x : Ex} {own : List Nat} (h : mE c (.comp p it ifs x own) e = true) : ∃ x' tg iter ifs' scope q, e = .ListComp x' [⟨tg, iter, ifs', 0⟩] scope q ∧ mIt c it iter = true ∧ blkC c.N c.sc scope (ownOf c.N own) = true ∧ (ownOf c.N own).map (·.2) = own ∧ mPat (subSC c scope) p tg = true ∧ mXs (subSC c scope) ifs ifs' = true ∧ ifs'.length ≤ 1 ∧ ifs'.any isStar = false ∧ mE (subSC c scope) x x' = true := by
  unfold mE at h
  split at h <;> (try simp_all)
  obtain ⟨⟨⟨rfl, h1⟩, h2, h3⟩, h4, ⟨⟨h5, h6⟩, h7⟩, h8⟩ := h
  exact ⟨_, _, _, _, _, ⟨rfl, ⟨rfl, rfl, rfl⟩, rfl⟩, h1, h2, h4, h5, h6, h7, h8⟩
end
section
variable {c : SC}
theorem iv_nil {es : List Expr} (h : mXs c .nil es = true) : es = [] := by
  unfold mXs at h
  split at h <;> (try simp_all)
theorem iv_cons {s : Bool} {x : Ex} {xs : Xs} {es : List Expr} (h : mXs c (.cons s x xs) es = true) : ∃ e r, mE c x e = true ∧ mXs c xs r = true ∧ ((s = true ∧ ∃ p, es = .Starred e p :: r) ∨ (s = false ∧ isStar e = false ∧ es = e :: r)) := by
  unfold mXs at h
  split at h <;> (try simp_all)
  exact ⟨_, h.2.1, _, h.2.2, h.1, rfl, rfl⟩
theorem iv_no {e : Option Expr} (h : mEo c .no e = true) : e = none := by
  unfold mEo at h
  split at h <;> (try simp_all)
theorem iv_yes {x : Ex} {e : Option Expr} (h : mEo c (.yes x) e = true) : ∃ e', e = some e' ∧ mE c x e' = true := by
  unfold mEo at h
  split at h <;> (try simp_all)
end
section
variable {c : SC} {e : Expr}
theorem ivt_seq {x : Ex} (h : mIt c (.seq x) e = true) : mE c x e = true := by
  unfold mIt at h
  exact h
theorem ivt_rng1 {a : Ex} (h : mIt c (.rng1 a) e = true) : ∃ q a' p, e = .Call (.Name "range" q) [a'] [] p ∧ glB c.sc "range" = true ∧ mE c a a' = true := by
  unfold mIt at h
  split at h <;> (try simp_all)
  obtain ⟨⟨rfl, h1⟩, h2⟩ := h
  exact ⟨_, _, ⟨rfl, rfl⟩, h1, h2⟩
theorem ivt_rng2 {a b : Ex} (h : mIt c (.rng2 a b) e = true) : ∃ q a' b' p, e = .Call (.Name "range" q) [a', b'] [] p ∧ glB c.sc "range" = true ∧ mE c a a' = true ∧ mE c b b' = true := by
  unfold mIt at h
  split at h <;> (try simp_all)
  obtain ⟨⟨rfl, h1⟩, h2⟩ := h
  exact ⟨_, _, _, ⟨rfl, rfl, rfl⟩, h1, h2⟩
theorem ivt_rng3 {a b d : Ex} (h : mIt c (.rng3 a b d) e = true) : ∃ q a' b' d' p, e = .Call (.Name "range" q) [a', b', d'] [] p ∧ glB c.sc "range" = true ∧ mE c a a' = true ∧ mE c b b' = true ∧ mE c d d' = true := by
  unfold mIt at h
  split at h <;> (try simp_all)
  obtain ⟨⟨rfl, h1⟩, h2⟩ := h
  exact ⟨_, _, _, _, ⟨rfl, rfl, rfl, rfl⟩, h1, h2⟩
theorem ivt_enum {x : Ex} (h : mIt c (.enum x) e = true) : ∃ q a' p, e = .Call (.Name "enumerate" q) [a'] [] p ∧ glB c.sc "enumerate" = true ∧ mE c x a' = true := by
  unfold mIt at h
  split at h <;> (try simp_all)
  obtain ⟨⟨rfl, h1⟩, h2⟩ := h
  exact ⟨_, _, ⟨rfl, rfl⟩, h1, h2⟩
theorem ivt_zip {a b : Ex} (h : mIt c (.zip a b) e = true) : ∃ q a' b' p, e = .Call (.Name "zip" q) [a', b'] [] p ∧ glB c.sc "zip" = true ∧ mE c a a' = true ∧ mE c b b' = true := by
  unfold mIt at h
  split at h <;> (try simp_all)
  obtain ⟨⟨rfl, h1⟩, h2⟩ := h
  exact ⟨_, _, _, ⟨rfl, rfl, rfl⟩, h1, h2⟩
theorem ivt_keys {x : Ex} (h : mIt c (.keys x) e = true) : mE c x e = true := by
  unfold mIt at h
  exact h
theorem ivt_items {x : Ex} (h : mIt c (.items x) e = true) : ∃ a' ap p, e = .Call (.Attribute a' "items" ap) [] [] p ∧ (ap.endLine == p.line) = true ∧ mE c x a' = true := by
  unfold mIt at h
  split at h <;> (try simp_all)
  obtain ⟨⟨rfl, h1⟩, h2⟩ := h
  exact ⟨_, _, _, ⟨⟨rfl, rfl⟩, rfl⟩, h1, h2⟩
end
end DL
/-! DL, part L: list(..), sorted(..) of lists, tuples, dicts. -/
namespace DL
open PySem PySem.Spec PyProof.Rows L2 PySem.W
section
variable {X : Cx} {pins : List (Addr × Obj)} {σ : L2.St} {s : Shared} {H : Hp}
theorem RepL.keysRep {ds : Addr} {L : Addr → Prop} : ∀ (ks : List Key), RepL ds L H (ks.map keyD) (ks.map kV)
  | [] => .nil
  | .inl i :: ks => .cons (.int i) (RepL.keysRep ks)
  | .inr x :: ks => .cons (.str x) (RepL.keysRep ks)
/-- what stands for a dict's keys -/
theorem keysT_rep {ds : Addr} {L : Addr → Prop} : ∀ {xs : List (NestedKey × D)} {kvs : List (NestedKey × Addr × V)}, RepT ds L H xs kvs → RepL ds L H (keysT xs) ((kvs.map fun e => e.2.1).map V.ref)
  | _, _, .nil => .nil
  | _, _, .cons z r t => .cons z (keysT_rep t)
theorem keysK_rep {ds : Addr} {L : Addr → Prop} : ∀ {xs : List (Key × D)} {kvs : List (Key × V)}, RepK ds L H xs kvs → RepL ds L H (keysK xs) (kvs.map fun kv => kV kv.1)
  | _, _, .nil => .nil
  | _, _, @RepK.cons _ _ _ k _ _ _ _ r t => by
    refine .cons ?_ (keysK_rep t)
    cases k
    · exact .int _
    · exact .str _
/-- what the entries are -/
theorem tab_entries {o : Obj} {es : Array DictEntry} {ep : Nat} {kvs : List (NestedKey × Addr × V)} (pr : Paired (fun (p : NestedKey × Addr × V) (en : DictEntry) => (∀ w, en.hash = p.1.hash w) ∧ p.1.depth ≤ 8 ∧ en.key = .ref p.2.1 ∧ RelV p.2.2 en.val) kvs es.toList) {P : Nat → Value → Prop}
    (hP : ∀ i v, P i v → ∃ en : DictEntry, es[i]? = some en ∧ v = en.key) {acc : Array Value} (it : ItemsOf P acc es.size) : acc.toList = (kvs.map fun e => e.2.1).map Value.ref := by
  have l2 : kvs.length = es.toList.length := Paired.length pr
  rw [Array.length_toList] at l2
  have hl : acc.toList.length = kvs.length := by rw [Array.length_toList, it.1]; exact l2.symm
  rw [List.map_map]
  apply List.ext_getElem?
  intro j
  rw [List.getElem?_map]
  cases hj : acc.toList[j]? with
  | none =>
    have h1 := List.getElem?_eq_none_iff.mp hj
    have h2 : kvs[j]? = none := List.getElem?_eq_none (by omega)
    rw [h2] <;> rfl
  | some v =>
    obtain ⟨en, hen, hv⟩ := hP _ _ (it.2 j v (by rw [← Array.getElem?_toList]; exact hj))
    cases hk : kvs[j]? with
    | none =>
      have := List.getElem?_eq_none_iff.mp hk
      have := (List.getElem?_eq_some_iff.mp hj).1
      omega
    | some y =>
      obtain ⟨en', h1, _, _, h3, _⟩ := L2.paired_get pr hk
      rw [Array.getElem?_toList, hen] at h1
      cases h1
      simp [hv, h3]
      all_goals rfl
theorem tab_raw (I : Inv X pins σ H s) {d : Addr} {kvs : List (NestedKey × Addr × V)} (hd : Rd H d (tabO d kvs)) : TabE s.heap d kvs := (show ObjOk X.prog X.w H s.heap d (tabO d kvs) from hd.ok I.hok).1
theorem col_dT (hc : X.calm = true) {E : Value → Shared → Prop} {d : Addr} {kvs : List (NestedKey × Addr × V)} {Q' : List Value → Shared → Prop} (I : Inv X pins σ H s) (hd : Rd H d (tabO d kvs)) (hz : kvs.length ≤ sizeLine)
    (h : ∀ s1, Inv X pins σ H s1 → Q' ((kvs.map fun e => e.2.1).map Value.ref) s1) : wpAny (model X.prog X.w) X.A.in1 (collect (.ref d)) Q' E s := by
  obtain ⟨lo, o, es, ep, ho, hx, hdt, pr, _⟩ := tab_raw I hd
  have l2 : kvs.length = es.size := by have := Paired.length pr; rw [Array.length_toList] at this; exact this
  refine kdu_collect (kdl_raw lo hx hdt) (I.ok.hd hc) ho (by omega) fun h' tk acc kp it => ?_
  rw [tab_entries (o := o) (ep := ep) pr (fun _ _ h => h) it]
  exact h _ (I.kept kp)
theorem col_dK (hc : X.calm = true) {E : Value → Shared → Prop} {d : Addr} {kvs : List (Key × V)} {Q' : List Value → Shared → Prop} (I : Inv X pins σ H s) (hd : Rd H d (.dK kvs))
    (h : ∀ us s1, Inv X pins σ H s1 → Vals (kvs.map fun kv => kV kv.1) us → us.length ≤ sizeLine → Q' us s1) : wpAny (model X.prog X.w) X.A.in1 (collect (.ref d)) Q' E s := by
  obtain ⟨z, lo, vs, rk, hm⟩ := (show ObjOk X.prog X.w H s.heap d (.dK kvs) from hd.ok I.hok)
  obtain ⟨ep, hat⟩ := hm.dictAt
  have hl : kvs.length = vs.length := Paired.length rk
  refine kdu_collect (kdl_dict (knd := mixKind X.prog X.w) (kvs := vs) (ep := ep) lo) (I.ok.hd hc) hat (by rw [← hl]; exact z) fun h' tk acc kp it => ?_
  have el : acc.toList.length = kvs.length := by rw [Array.length_toList, it.1, hl]
  refine h _ _ (I.kept kp) (vals_of_at (by rw [List.length_map, el]) fun j x w h1 h2 => ?_) (by omega)
  obtain ⟨k, y, hky, hi⟩ := it.2 j w (by rw [← Array.getElem?_toList]; exact h2)
  have e1 : (kvs.map (·.1))[j]? = some k := by
    rw [KV.keys rk, List.getElem?_map, hky] <;> rfl
  have e3 : (kvs.map fun kv => kV kv.1) = (kvs.map (·.1)).map kV := by rw [List.map_map] <;> rfl
  rw [e3, List.getElem?_map, e1] at h1
  cases h1
  exact keyIs_rel hi
theorem col_lst {E : Value → Shared → Prop} {a : Addr} {vs : List V} {Q' : List Value → Shared → Prop} (I : Inv X pins σ H s) (hd : SqL X.K H a vs)
    (h : ∀ us s1, Inv X pins σ H s1 → Vals vs us → us.length ≤ sizeLine → Q' us s1) : wpAny (model X.prog X.w) X.A.in1 (collect (.ref a)) Q' E s := by
  obtain ⟨its, rv, ⟨o, n, e1, e2, e3, e4⟩, hz⟩ := I.list hd
  have el := rv.length
  exact wpAny_collect_seq a (.inl rfl) e1 e2 e4 (fun h' kp => by
    have := h its _ (I.kept (t' := s.toks) kp) rv (by omega)
    simpa using this) (by simp; omega)
theorem col_tup {E : Value → Shared → Prop} {a : Addr} {vs : List V} {Q' : List Value → Shared → Prop} (I : Inv X pins σ H s) (hd : SqT X.K H a vs)
    (h : ∀ us s1, Inv X pins σ H s1 → Vals vs us → us.length ≤ sizeLine → Q' us s1) : wpAny (model X.prog X.w) X.A.in1 (collect (.ref a)) Q' E s := by
  obtain ⟨its, rv, ht, hz⟩ := I.tuple hd
  have el := rv.length
  obtain ⟨o, e1, e2, n, e3⟩ := id ht
  exact wpAny_collect_seq a (.inr rfl) e1 e2 e3 (fun h' kp => by
    have := h its _ (I.kept (t' := s.toks) kp) rv (by omega)
    simpa using this) (by simp; omega)
theorem blt_sorted (hc : X.calm = true) (hu : X.A.units + 64 < cLine) (m : Nat) (hm : m ≠ 3) : CallR X (.builtin "sorted") (rBlt m .sorted) := by
  intro pins s σ H vs us Q I r ⟨S, O, ds, z, h1, h2, hz⟩
  replace h2 : sortedD ds = some z := h2
  unfold sortedD at h2
  split at h2
  · split at h2
    · rename_i q
      cases h2
      obtain ⟨v, rfl, h⟩ := h1.one
      obtain ⟨p, ws, rfl, n, r1, zl, i⟩ := (show Top S O H (.lst _) v from h)
      obtain ⟨u, us', rfl, ru, t⟩ := vals_cons r
      cases t
      cases ru
      refine sorted_gen hu hm q (fun vs H1 => vs = ws ∧ H1 = H) (fun {Q'} k => col_lst I (SqL.of r1) fun us s1 I1 rv hz => k us ws H s1 I1 rv hz ⟨rfl, rfl⟩) fun vs H1 ⟨e1, e2⟩ => ?_
      subst e1 e2
      exact ⟨S, O, i, hz⟩
    · cases h2
  · split at h2
    · rename_i q
      cases h2
      obtain ⟨v, rfl, h⟩ := h1.one
      replace h : Rep S.ds (LV O) H _ v := h
      cases h with
      | tup r1 zl i =>
      obtain ⟨u, us', rfl, ru, t⟩ := vals_cons r
      cases t
      cases ru
      refine sorted_gen hu hm q (fun vs H1 => RepL S.ds (LV O) H _ vs ∧ H1 = H) (fun {Q'} k => col_tup I r1.sq fun us s1 I1 rv hz => k us _ H s1 I1 rv hz ⟨i, rfl⟩) fun vs H1 ⟨e1, e2⟩ => ?_
      subst e2
      exact ⟨S, O, e1, hz⟩
    · cases h2
  · split at h2
    · rename_i q
      cases h2
      obtain ⟨v, rfl, h⟩ := h1.one
      obtain ⟨p, ws, rfl, n, r1, zl, i⟩ := (show Top S O H (.dK _) v from h)
      obtain ⟨u, us', rfl, ru, t⟩ := vals_cons r
      cases t
      cases ru
      refine sorted_gen hu hm q (fun vs H1 => vs = (ws.map fun kv => kV kv.1) ∧ H1 = H) (fun {Q'} k => col_dK hc I r1 fun us s1 I1 rv hz => k us _ H s1 I1 rv hz ⟨rfl, rfl⟩) fun vs H1 ⟨e1, e2⟩ => ?_
      subst e1 e2
      exact ⟨S, O, keysK_rep i, hz⟩
    · cases h2
  · split at h2
    · rename_i q
      cases h2
      obtain ⟨v, rfl, h⟩ := h1.one
      obtain ⟨p, ws, rfl, n, r1, zl, i⟩ := (show Top S O H (.dT _) v from h)
      obtain ⟨u, us', rfl, ru, t⟩ := vals_cons r
      cases t
      cases ru
      refine sorted_gen hu hm q (fun vs H1 => vs = (ws.map fun e => e.2.1).map V.ref ∧ H1 = H) (fun {Q'} k => col_dT hc I r1 zl fun s1 I1 => k _ _ H s1 I1 (vals_refs _) (by simpa using zl) ⟨rfl, rfl⟩) fun vs H1 ⟨e1, e2⟩ => ?_
      subst e1 e2
      exact ⟨S, O, keysT_rep i, hz⟩
    · cases h2
  · cases h2
theorem blt_list (hc : X.calm = true) (m : Nat) (hm : m ≠ 3) : CallR X (.type "list") (rBlt m .list) := by
  intro pins s σ H vs us Q I r ⟨S, O, ds, z, h1, h2, hz⟩
  replace h2 : listD ds = some z := h2
  unfold listD at h2
  split at h2
  · cases h2
    obtain ⟨v, rfl, h⟩ := h1.one
    obtain ⟨p, ws, rfl, n, r1, zl, i⟩ := (show Top S O H (.lst _) v from h)
    exact call_list_of pins s σ H _ us Q I r ⟨p, ws, rfl, .inl (SqL.of r1), hz.lst hm i zl⟩
  · cases h2
    obtain ⟨v, rfl, h⟩ := h1.one
    replace h : Rep S.ds (LV O) H _ v := h
    cases h with
    | tup r1 zl i =>
    exact call_list_of pins s σ H _ us Q I r ⟨_, _, rfl, .inr r1.sq, hz.lst hm i zl⟩
  · cases h2
    obtain ⟨v, rfl, h⟩ := h1.one
    obtain ⟨p, ws, rfl, n, r1, zl, i⟩ := (show Top S O H (.dT _) v from h)
    obtain ⟨u, us', rfl, ru, t⟩ := vals_cons r
    cases t
    cases ru
    obtain ⟨lo, o, es, ep, ho, hx, hdt, pr, _⟩ := tab_raw I r1
    have l2 : ws.length = es.size := by have := Paired.length pr; rw [Array.length_toList] at this; exact this
    refine PySem.W.kdl_call (kdl_raw lo hx hdt) (I.ok.hd hc) ho (by omega) fun h' tk acc' c' kp e it => ?_
    have ea := tab_entries (o := o) (ep := ep) pr (fun _ _ h => h) it
    refine ⟨.ref s.heap.objs.size, upd H s.heap.objs.size (.lst ((ws.map fun e => e.2.1).map V.ref)), I.laid kp (Nat.le_refl _) (show ObjOk X.prog X.w _ _ _ (.lst ((ws.map fun e => e.2.1).map V.ref)) from ⟨by simpa using zl, acc'.toList, c', by rw [ea]; exact vals_refs _, by rw [Array.toArray_toList]; exact e⟩), rfl, hz.lst hm (keysT_rep i) (by simpa using zl) _ (I.hok.fresh (Nat.le_refl _))⟩
  · cases h2
end
end DL
/-! DL, part M: what is walked: lists or tuples, their enumerations, the items of dicts. -/
namespace DL
open PySem PySem.Spec PyProof.Rows L2 PySem.W
/-! ### enumerate(a tuple) -/
theorem meets_enumB {v : Value} {o : Obj} {G : Heap → Prop} (B : Begins v o G) :
    Meets (Builtin.«enumerate.__new__» ⟨[.type "enumerate", v], []⟩) (fun _ R s => G s.heap ∧
      R (.ok (.ret (.ref (s.heap.push o).objs.size))) { s with heap := (s.heap.push o).push { cls := .type "enumerate", data := .fields #[.none, .bool false, .ref s.heap.objs.size, rawInt 0, .none, .none] } }) :=
  .of_wp fun prog w A R s h => by
    obtain ⟨hp, gs, dr, tk, os⟩ := s
    obtain ⟨h1, h⟩ := h
    have hsub := sub_enumerate
    have q1 : ∀ {A' : Around} {E : Value → Shared → Prop} {Q : Value → Shared → Prop}, Q (.ref hp.objs.size) ⟨hp.push o, gs, dr, tk, os⟩ → wpAny (model prog w) A' (pyIter v) Q E ⟨hp, gs, dr, tk, os⟩ :=
      fun q => B.iter prog w _ _ ⟨hp, gs, dr, tk, os⟩ _ h1 q
    wp_walk using q1
    refine wpAny_stack_any fun st => wpAny_pure ?_
    split
    · rename_i c _ _ _ _ _
      cases (c == Value.type "enumerate") <;> (wp_walk using q1; exact ⟨_, rfl, h⟩)
    · wp_walk using q1
      exact ⟨_, rfl, h⟩
theorem enumB {prog : Program} {w : World} {A : Around} {E : Value → Shared → Prop} {s : Shared} {v : Value} {o : Obj} {G : Heap → Prop} {Q : Value → Shared → Prop} (B : Begins v o G) (h1 : G s.heap)
    (h : ∀ h', IsEnum h' (s.heap.objs.size + 1) s.heap.objs.size 0 .none → h'.get? s.heap.objs.size = some o →
      (∀ b o, s.heap.get? b = some o → h'.get? b = some o) → Q (.ref (s.heap.objs.size + 1)) { s with heap := h' }) :
    wpAny (model prog w) A (call (.type "enumerate") [v]) Q E s := by
  refine callType_new F.called_enumerate (by decide) (F.typeCall_enumerate_1 _) (F.newCall_enumerate_1 _) (fun obj => F.args_object_init_2 obj _) F.entry_enumerate_new
    (meets_enumB B) ⟨h1, ?_⟩
  have hz : (s.heap.push o).objs.size = s.heap.objs.size + 1 := Heap.size_push ..
  show _ ∧ _
  rw [hz]
  have he : IsEnum ((s.heap.push o).push { cls := .type "enumerate", data := .fields #[.none, .bool false, .ref s.heap.objs.size, rawInt 0, .none, .none] }) (s.heap.objs.size + 1) s.heap.objs.size 0 .none := by
    have q := Heap.get?_push_size (s.heap.push o) (o := { cls := .type "enumerate", data := .fields #[.none, .bool false, .ref s.heap.objs.size, rawInt 0, .none, .none] }) rfl
    rw [hz] at q
    exact q
  exact ⟨⟨_, he, rfl⟩, h _ he (Heap.get?_push_of_some _ (Heap.get?_push_size _ B.free)) fun b o x => Heap.get?_push_of_some _ (Heap.get?_push_of_some _ x)⟩
/-- the tuple at a, each item in a new pair -/
def IteT (K : PySem.W.Frag) (a : Addr) : L2.It :=
  ⟨fun i H => ∃ (xs : List V) (x : V), SqT K H a xs ∧ xs[i]? = some x, fun i H v H' => ∃ T x, v = .ref T ∧ H T = none ∧ H' = upd H T (.tup [.int (i : Nat), x]) ∧ ∀ xs, SqT K H a xs → xs[i]? = some x, fun i H => ∃ xs : List V, SqT K H a xs ∧ xs.length ≤ i⟩
theorem turn_enumT {P : Program} {w : World} {K : PySem.W.Frag} {elts : List Expr} {kk : Nat} {tpos : Pos} (a e it : Addr) :
    Turn P w K (.Tuple elts kk tpos) (IteT K a) [e, it] e (fun i h => (∃ old, IsEnum h e it ((i : Nat) : Int) old) ∧ h.IsTupleIter it a i ∧ e ≠ it ∧ a ≠ it ∧ e ≠ a) where
  mem := List.mem_cons_self
  obj := fun i h st b hb => by
    obtain ⟨⟨old, he⟩, ⟨o, ho, hc, hd⟩, _⟩ := st
    rcases List.mem_cons.mp hb with rfl | hb
    · exact ⟨_, he, fun v q => nomatch q⟩
    · obtain rfl := List.mem_singleton.mp hb
      exact ⟨o, ho, fun v q => by rw [hd] at q; cases q⟩
  keep := fun i h h' st k => ⟨⟨st.1.choose, k e List.mem_cons_self _ st.1.choose_spec⟩, st.2.1.at fun o q => k it (List.mem_cons_of_mem _ List.mem_cons_self) o q, st.2.2⟩
  item := by
    intro X hP hw hK hc i pins s σ H E I hf st hg
    subst hP hw hK
    obtain ⟨⟨old, he⟩, hit, hne, hai, hea⟩ := st
    obtain ⟨xs, x, hq, hx⟩ := hg
    obtain ⟨its, rv, p, hz⟩ := I.tuple hq
    obtain ⟨u, hu, ru⟩ := rv.get hx
    have hel : e < s.heap.objs.size := Heap.lt_size he
    have hil : it < s.heap.objs.size := by obtain ⟨_, q, _⟩ := hit; exact Heap.lt_size q
    have hlt : i < its.toArray.size := by
      have := (List.getElem?_eq_some_iff.mp hu).1
      simpa using this
    refine wpAny_pyNext_enum_itemD (Draws.tuple (A := X.A.in1) (I.ok.hd hc) it a hai its.toArray) he ⟨hit, show s.heap.IsTuple a its.toArray from p⟩ hlt hne (by simp [hne, hea]) fun u' h' tk hu' ho st' hT hsz hk => ?_
    obtain rfl : u = u' := by
      have e1 : its.toArray[i]? = some u := by simpa using hu
      rw [e1] at hu'
      exact Option.some.inj hu'
    refine ⟨_, rfl, wpAny_letOwnedTupleGo_enum (s := { s with heap := h', toks := tk + 1 }) ho fun h'' he' sb => ?_⟩
    have hT2 : h''.get? s.heap.objs.size = some { cls := .type "tuple", data := .seq #[.int i tk, u] } := (sb.2 _ (Nat.ne_of_gt hel)).trans hT
    have new : ObjOk X.prog X.w (upd H s.heap.objs.size (.tup [.int (i : Nat), x])) h'' s.heap.objs.size (.tup [.int (i : Nat), x]) :=
      ⟨show 2 ≤ sizeLine by decide, [.int i tk, u], .cons ⟨_, rfl⟩ (.cons ru .nil), ⟨_, hT2, rfl, _, rfl⟩⟩
    have I1 : Inv X pins σ (upd H s.heap.objs.size (.tup [.int (i : Nat), x])) { s with heap := h'', toks := tk + 1 } :=
      I.turnedNew (ch := [e, it]) (fun b o hb q => by
        have n1 : b ≠ e := fun z => hb (by simp [z])
        have n2 : b ≠ it := fun z => hb (by simp [z])
        exact (sb.2 b n1).trans (hk b o n1 n2 q)) hf (Nat.le_refl _) new
    refine ⟨.ref s.heap.objs.size, _, I1, rfl, ⟨_, x, rfl, I.hok.fresh (Nat.le_refl _), rfl, fun ys hy => by rw [I.tuple_inj hy hq]; exact hx⟩, ⟨⟨u, ?_⟩, st'.1.at fun o q => (sb.2 it (Ne.symm hne)).trans q, hne, hai, hea⟩, fun b hb => ?_⟩
    · have e1 : ((i + 1 : Nat) : Int) = (i : Int) + 1 := by omega
      rw [e1]
      exact he'
    · have hb' : b < s.heap.objs.size := by
        rcases List.mem_cons.mp hb with rfl | hb
        · exact hel
        · rw [List.mem_singleton.mp hb]; exact hil
      rw [upd_ne (Nat.ne_of_lt hb')]
      exact (hf b hb).1
  done := by
    intro X hP hw hK hc i pins s σ H E I hf st hg
    subst hP hw hK
    obtain ⟨⟨old, he⟩, hit, hne, hai, hea⟩ := st
    obtain ⟨xs, hq, hx⟩ := hg
    obtain ⟨its, rv, p, hz⟩ := I.tuple hq
    obtain ⟨f0, f1, f2, f3, f4, f5⟩ := hf it (List.mem_cons_of_mem _ List.mem_cons_self)
    have hl := rv.length
    have hT : s.TypeIs (.ref e) "enumerate" := ⟨_, he, rfl⟩
    unfold pyNext
    refine wpAny_bind (wpAny_attempt (wpAny_callSpecial?_slot (name := Str.ofString "__next__") hT F.slot_enumerate_next
      (wpAny_call_entry F.slot_enumerate_next hT F.entry_enumerate_next ?_ (F.args_enumerate_next_1 _))))
    show wpAny _ _ (field (.ref e) 2 >>= _) _ _ _
    refine wpAny_bind (wpAny_field he rfl (x := .ref it) rfl ?_)
    refine wpAny_bind (wpAny_nextOf_tuple_end (A := X.A.in1) (I.ok.hd hc) hit (show s.heap.IsTuple a its.toArray from p) (by simp; omega) fun h' x he' hx' => ?_)
    obtain ⟨o, ho, hcl⟩ := hx'
    refine wpAny_bind (wpAny_isInstance (T := "StopIteration") (b := true) ⟨o, ho, hcl⟩ isSubtype_stop ?_)
    exact wpAny_pure ⟨rfl, I.turned (t' := s.toks) (fun b o hb q => he' b o hb q) f0 f1 f3 f4 f5⟩
  self := fun A i s Q E st h => wpAny_pyIter_enum st.1.choose_spec h
end DL
/-! DL, part N: iterators at hand, what they walk. -/
namespace DL
open PySem PySem.Spec PyProof.Rows L2 PySem.W
/-! ### the items of a locked dict with tuple keys -/
def ItiT (d : Addr) (o : Obj) (kvs : List (NestedKey × Addr × V)) : L2.It :=
  ⟨fun i H => H d = some (.frz o (tabO d kvs)) ∧ i < kvs.length, fun i H x H' => ∃ T e, kvs[i]? = some e ∧ x = .ref T ∧ H T = none ∧ H' = upd H T (.tup [.ref e.2.1, e.2.2]), fun i H => H d = some (.frz o (tabO d kvs)) ∧ kvs.length ≤ i⟩
theorem frz_dT {X : Cx} {pins : List (Addr × Obj)} {σ : L2.St} {H : Hp} {s : Shared} {d : Addr} {o : Obj} {kvs : List (NestedKey × Addr × V)} (I : Inv X pins σ H s) (h : H d = some (.frz o (tabO d kvs))) :
    (d == sysModules) = false ∧ s.heap.get? d = some o ∧ o.ExactDict ∧ ∃ (es : Array DictEntry) (ep : Nat), o.data = .dict es ep ∧ es.size = kvs.length ∧
      ∀ (i : Nat) (e : NestedKey × Addr × V), kvs[i]? = some e → ∃ en : DictEntry, es[i]? = some en ∧ en.key = .ref e.2.1 ∧ RelV e.2.2 en.val := by
  obtain ⟨hd, t, _⟩ := I.hok d _ h
  obtain ⟨lo, o', es, ep, ho, hx, hdt, pr, _⟩ := (show TabE s.heap d kvs from t)
  rw [hd] at ho
  cases ho
  have l2 : kvs.length = es.size := by have := Paired.length pr; rw [Array.length_toList] at this; exact this
  refine ⟨lo, hd, hx, es, ep, hdt, l2.symm, fun i e q => ?_⟩
  obtain ⟨en, h1, _, _, h3, h4⟩ := L2.paired_get pr q
  exact ⟨en, by rw [← Array.getElem?_toList]; exact h1, h3, h4⟩
theorem turn_itemsT {P : Program} {w : World} {K : PySem.W.Frag} {d : Addr} {o : Obj} {es : Array DictEntry} {ep : Nat} {kvs : List (NestedKey × Addr × V)} {elts : List Expr} {kk : Nat} {tpos : Pos} (it : Addr) (hod : o.data = .dict es ep) :
    Turn P w K (.Tuple elts kk tpos) (ItiT d o kvs) [it] it (fun i h => ∃ ok ov, IsItemIter h it d i kvs.length ep ok ov) where
  mem := List.mem_cons_self
  obj := fun i h st b hb => by
    obtain rfl := List.mem_singleton.mp hb
    obtain ⟨ok, ov, e⟩ := st
    exact ⟨_, e, fun v z => nomatch z⟩
  keep := fun i h h' st k => ⟨st.choose, st.choose_spec.choose, k it List.mem_cons_self _ st.choose_spec.choose_spec⟩
  item := by
    intro X hP hw hK hc i pins s σ H E I hf st hg
    subst hP hw hK
    obtain ⟨hd, hi⟩ := hg
    obtain ⟨hs, hgd, hx, es', ep', hdt, hsz, ent⟩ := frz_dT I hd
    obtain ⟨rfl, rfl⟩ := dict_ep hod hdt
    obtain ⟨⟨k, q, v⟩, hkv⟩ : ∃ p, kvs[i]? = some p := ⟨kvs[i], List.getElem?_eq_getElem hi⟩
    obtain ⟨en, hen, hkey, rv⟩ := ent i _ hkv
    obtain ⟨ok, ov, he⟩ := st
    rw [← hsz] at he
    have hlt : it < s.heap.objs.size := Heap.lt_size he
    have hi' : i < es'.size := by omega
    have ee : es'[i] = en := by
      have e1 : es'[i]? = some es'[i] := Array.getElem?_eq_getElem hi'
      rw [hen] at e1
      exact (Option.some.inj e1).symm
    refine DT.nextI he ⟨o, hgd, hx, hdt⟩ hi' fun h' ho hT hz hk => ?_
    rw [ee, hkey] at ho hT
    refine ⟨_, rfl, wpAny_letOwnedTupleGo_items (s := { s with heap := h' }) ho fun h'' he' sb => ?_⟩
    have hT2 : h''.get? s.heap.objs.size = some { cls := .type "tuple", data := .seq #[.ref q, en.val] } := (sb.2 _ (Nat.ne_of_gt hlt)).trans hT
    have new : ObjOk X.prog X.w (upd H s.heap.objs.size (.tup [.ref q, v])) h'' s.heap.objs.size (.tup [.ref q, v]) :=
      ⟨show 2 ≤ sizeLine by decide, [.ref q, en.val], .cons rfl (.cons rv .nil), ⟨_, hT2, rfl, _, rfl⟩⟩
    have I1 : Inv X pins σ (upd H s.heap.objs.size (.tup [.ref q, v])) { s with heap := h'' } :=
      I.turnedNew (t' := s.toks) (ch := [it]) (fun b ob hb e => by
        have n1 : b ≠ it := fun z => hb (by simp [z])
        exact (sb.2 b n1).trans (hk b ob n1 e)) hf (Nat.le_refl _) new
    refine ⟨.ref s.heap.objs.size, _, I1, rfl, ⟨_, _, hkv, rfl, I.hok.fresh (Nat.le_refl _), rfl⟩, ⟨_, _, by rw [← hsz]; exact he'⟩, fun b hb => ?_⟩
    obtain rfl := List.mem_singleton.mp hb
    rw [upd_ne (Nat.ne_of_lt hlt)]
    exact (hf _ List.mem_cons_self).1
  done := by
    intro X hP hw hK hc i pins s σ H E I hf st hg
    subst hP hw hK
    obtain ⟨hd, hi⟩ := hg
    obtain ⟨f0, f1, f2, f3, f4, f5⟩ := hf it List.mem_cons_self
    obtain ⟨hs, hgd, hx, es', ep', hdt, hsz, ent⟩ := frz_dT I hd
    obtain ⟨rfl, rfl⟩ := dict_ep hod hdt
    obtain ⟨ok, ov, he⟩ := st
    rw [← hsz] at he
    exact DT.endI (I.ok.hd hc) he ⟨o, hgd, hx, hdt⟩ (by omega) fun h' eb => ⟨rfl, I.turned (t' := s.toks) (fun b ob hb e => eb b ob hb e) f0 f1 f3 f4 f5⟩
  self := fun A i s Q E st h => PySem.W.kcp_self st.choose_spec.choose_spec h

/-! ### the keys -/
def ItkN (d : Addr) (o : Obj) (kvs : List (NestedKey × Addr × V)) : L2.It :=
  ⟨fun i H => H d = some (.frz o (tabO d kvs)) ∧ i < kvs.length, fun i H x H' => H' = H ∧ ∃ e, kvs[i]? = some e ∧ x = .ref e.2.1, fun i H => H d = some (.frz o (tabO d kvs)) ∧ kvs.length ≤ i⟩
theorem turn_keysN {P : Program} {w : World} {K : PySem.W.Frag} {tg : Expr} {d : Addr} {o : Obj} {es : Array DictEntry} {ep : Nat} {kvs : List (NestedKey × Addr × V)} (it : Addr) (hod : o.data = .dict es ep) : Turn P w K tg (ItkN d o kvs) [it] it (fun i h => h.IsKeyIter it d i kvs.length ep) where
  mem := List.mem_cons_self
  obj := fun i h st b hb => by
    obtain rfl := List.mem_singleton.mp hb
    obtain ⟨oi, e, c, dd⟩ := st
    exact ⟨oi, e, fun v z => by rw [dd] at z; cases z⟩
  keep := fun i h h' st k => st.at fun oi e => k it List.mem_cons_self oi e
  item := by
    intro X hP hw hK hc i pins s σ H E I hf st hg
    subst hP hw hK
    obtain ⟨hd, hi⟩ := hg
    obtain ⟨f0, f1, f2, f3, f4, f5⟩ := hf it List.mem_cons_self
    obtain ⟨hs, hgd, hx, es', ep', hdt, hsz, ent⟩ := frz_dT I hd
    obtain ⟨rfl, rfl⟩ := dict_ep hod hdt
    obtain ⟨e, hkv⟩ : ∃ p, kvs[i]? = some p := ⟨kvs[i], List.getElem?_eq_getElem hi⟩
    obtain ⟨en, hen, hkey, _⟩ := ent i e hkv
    refine L2.next_key_item st hgd hdt hsz hen fun h' st' sb => ?_
    have I1 : Inv X pins σ H { s with heap := h' } := I.turned (t' := s.toks) (fun b ob hb e => (sb.2 b hb).trans e) f0 f1 f3 f4 f5
    obtain ⟨oi, e2, c, dd⟩ := id st'
    exact ⟨en.key, rfl, L2.go_of (s := { s with heap := h' }) e2 c dd (by decide) ⟨.ref e.2.1, H, I1, hkey, ⟨rfl, e, hkv, rfl⟩, st', fun b hb => (hf b hb).1⟩⟩
  done := by
    intro X hP hw hK hc i pins s σ H E I hf st hg
    subst hP hw hK
    obtain ⟨hd, hi⟩ := hg
    obtain ⟨f0, f1, f2, f3, f4, f5⟩ := hf it List.mem_cons_self
    obtain ⟨hs, hgd, hx, es', ep', hdt, hsz, ent⟩ := frz_dT I hd
    obtain ⟨rfl, rfl⟩ := dict_ep hod hdt
    exact L2.next_key_end (I.ok.hd hc) st hgd hdt hsz hi fun h' eb => ⟨rfl, I.turned (t' := s.toks) (fun b ob hb e => eb b ob hb e) f0 f1 f3 f4 f5⟩
  self := fun A i s Q E st h => by
    refine wpAny_pyIter_slot st.typeIs PySem.F.slot_dict_keyiterator_iter (wpAny_call_entry PySem.F.slot_dict_keyiterator_iter st.typeIs PySem.F.entry_dict_keyiterator_iter ?_ (PySem.F.args_dict_keyiterator_iter_1 _))
    show wpAny _ _ (ret (.ref it)) _ _ s
    exact wpAny_pure ⟨_, rfl, "dict_keyiterator", _, st.typeIs, PySem.F.slot_dict_keyiterator_next.lookup, h⟩
theorem walk_keysN {d : Addr} {o : Obj} {kvs : List (NestedKey × Addr × V)} : Walk (ItkN d o kvs) kvs.length (fun H => H d = some (.frz o (tabO d kvs))) (fun i H x H' => H' = H ∧ ∃ e, kvs[i]? = some e ∧ x = .ref e.2.1) :=
  ⟨fun _ _ hi q => ⟨q, hi⟩, fun _ q => ⟨q, Nat.le_refl _⟩, fun _ _ _ _ _ _ y => y⟩

/-! ### iterators -/
def iKeysA (td : TE) : TI := fun σ H R => td σ H fun x H1 => ∃ d o, x = .ref d ∧ ((∃ kvs, H1 d = some (.frz o (.dK kvs)) ∧ R (Itk d o kvs) H1) ∨ (∃ kvs, H1 d = some (.frz o (tabO d kvs)) ∧ R (ItkN d o kvs) H1))
def iSeqA (K : PySem.W.Frag) (tl : TE) : TI := fun σ H R => tl σ H fun x H1 => ∃ a, x = .ref a ∧ ((∃ xs, SqL K H1 a xs ∧ R (Itl K a) H1) ∨ (∃ xs, SqT K H1 a xs ∧ R (Itt K a) H1))
def iEnumA (K : PySem.W.Frag) (ta : TA) : TI := fun σ H R => ta σ H fun vs H1 => ∃ a, vs = [.ref a] ∧ ((∃ xs, SqL K H1 a xs ∧ R (Ite K a) H1) ∨ (∃ xs, SqT K H1 a xs ∧ R (IteT K a) H1))
def iItemsA (td : TE) : TI := fun σ H R => td σ H fun x H1 => ∃ d o, x = .ref d ∧ ((∃ kvs, H1 d = some (.frz o (.dK kvs)) ∧ R (Iti d o kvs) H1) ∨ (∃ kvs, H1 d = some (.frz o (tabO d kvs)) ∧ R (ItiT d o kvs) H1))
section
variable {X : Cx} {tg : Expr}
theorem pi_seqA {l : Expr} {tl : TE} (hl : PE X l tl) : PI X tg l (iSeqA X.K tl) := by
  refine ⟨fun pins s σ H R I h => ?_⟩
  refine thn (hl.run pins s σ H _ I h) fun v s1 ⟨x, H1, I1, r1, a, e, q1⟩ => ?_
  subst e
  cases r1
  have fp : ∀ b ∈ [s1.heap.objs.size], FpOk X pins H1 b := fun b hb => by
    obtain rfl := List.mem_singleton.mp hb
    exact I1.fpOk (Nat.le_refl _) (I1.hok.fresh (Nat.le_refl _))
  rcases q1 with ⟨xs, hq, q⟩ | ⟨xs, hq, q⟩
  · obtain ⟨its, rv, p, hz⟩ := I1.list hq
    exact wpAny_pyIter_list p.isList ⟨s1.heap.objs.size, [s1.heap.objs.size], _, _, H1, rfl, I1.kept (t' := s1.toks) fun b o e => Heap.get?_push_of_some _ e, turn_list a _, ⟨_, Heap.get?_push_size _ rfl, rfl, rfl⟩, fp, q⟩
  · obtain ⟨its, rv, p, hz⟩ := I1.tuple hq
    exact wpAny_pyIter_tuple (show s1.heap.IsTuple a its.toArray from p) ⟨s1.heap.objs.size, [s1.heap.objs.size], _, _, H1, rfl, I1.kept (t' := s1.toks) fun b o e => Heap.get?_push_of_some _ e, turn_tuple a _, ⟨_, Heap.get?_push_size _ rfl, rfl, rfl⟩, fp, q⟩
theorem pi_enumA {e : Expr} {ta : TA} {p pos tpos : Pos} {elts : List Expr} {kk : Nat} (hg : Gl X "enumerate") (hm : X.mg "enumerate" = none) (ha : PA X [e] ta) (hs : starEach [e] X.env = [(false, eval e X.env)]) :
    PI X (.Tuple elts kk tpos) (.Call (.Name "enumerate" p) [e] [] pos) (iEnumA X.K ta) := by
  refine ⟨fun pins s σ H R I h => ?_⟩
  refine Call_ (ld_blt I hg hm boot_enumerate (PyProof.Rows.callWith_type1 (thn (ha.run pos pins s σ H _ I h) fun us s1 ⟨vs, H1, I1, r1, a, ex, q1⟩ => ?_) hs rfl))
  subst ex
  obtain ⟨u, us', rfl, ru, t⟩ := vals_cons r1
  cases t
  cases ru
  have fp : ∀ b ∈ [s1.heap.objs.size + 1, s1.heap.objs.size], FpOk X pins H1 b := fun b hb => by
    have hle : s1.heap.objs.size ≤ b := by
      rcases List.mem_cons.mp hb with rfl | hb
      · exact Nat.le_add_right _ _
      · rw [List.mem_singleton.mp hb]; exact Nat.le_refl _
    exact I1.fpOk hle (I1.hok.fresh hle)
  rcases q1 with ⟨xs, hq, q⟩ | ⟨xs, hq, q⟩
  · obtain ⟨its, rv, p', hz⟩ := I1.list hq
    refine call_enumerate_list p'.isList fun h' he hit hsz hk => wpAny_pyIter_enum he ?_
    exact ⟨s1.heap.objs.size + 1, [s1.heap.objs.size + 1, s1.heap.objs.size], _, _, H1, rfl, I1.kept (t' := s1.toks) hk, turn_enum a (s1.heap.objs.size + 1) s1.heap.objs.size, ⟨⟨.none, he⟩, hit, Nat.succ_ne_self _⟩, fp, q⟩
  · obtain ⟨its, rv, p', hz⟩ := I1.tuple hq
    have hlt : a < s1.heap.objs.size := by obtain ⟨_, e, _⟩ := p'; exact Heap.lt_size e
    refine enumB (begins_tuple a its.toArray) (show s1.heap.IsTuple a its.toArray from p') fun h' he hit hk => wpAny_pyIter_enum he ?_
    exact ⟨s1.heap.objs.size + 1, [s1.heap.objs.size + 1, s1.heap.objs.size], _, _, H1, rfl, I1.kept (t' := s1.toks) hk, turn_enumT a (s1.heap.objs.size + 1) s1.heap.objs.size, ⟨⟨.none, he⟩, ⟨_, hit, rfl, rfl⟩, Nat.succ_ne_self _, Nat.ne_of_lt hlt, Nat.ne_of_gt (Nat.lt_succ_of_lt hlt)⟩, fp, q⟩
theorem pi_keysA {e : Expr} {td : TE} (he : PE X e td) : PI X tg e (iKeysA td) := by
  refine ⟨fun pins s σ H R I h => ?_⟩
  refine thn (he.run pins s σ H _ I h) fun u s1 ⟨x, H1, I1, rx, d, o, ex, q⟩ => ?_
  subst ex
  obtain rfl : u = Value.ref d := rx
  rcases q with ⟨kvs, hd, q⟩ | ⟨kvs, hd, q⟩
  · obtain ⟨hs, hgd, hx, es, ep, vs, hdt, hsz, kv, hm⟩ := I1.frzK hd
    refine L2.iter_keys hs hgd hx hdt (pi_one (tk := s1.toks) I1 _ (turn_keys _ hdt) ⟨_, Heap.get?_push_size _ rfl, rfl, ?_⟩ q)
    rw [hsz] <;> rfl
  · obtain ⟨hs, hgd, hx, es, ep, hdt, hsz, ent⟩ := frz_dT I1 hd
    refine L2.iter_keys hs hgd hx hdt (pi_one (tk := s1.toks) I1 _ (turn_keysN _ hdt) ⟨_, Heap.get?_push_size _ rfl, rfl, ?_⟩ q)
    rw [hsz] <;> rfl
theorem pi_itemsA {e : Expr} {td : TE} {apos cpos : Pos} {elts : List Expr} {kk : Nat} {tpos : Pos} (he : PE X e td) (hbase : attributeBase e "items" X.env (eval e X.env) = eval e X.env) (hline : (apos.endLine == cpos.line) = true) :
    PI X (.Tuple elts kk tpos) (.Call (.Attribute e "items" apos) [] [] cpos) (iItemsA td) := by
  refine ⟨fun pins s σ H R I h => ?_⟩
  refine wpAny_Call_method (T := "dict") (id := "dict.items") hbase rfl hline F.plainAttrs_dict F.slot_dict_items F.type_dict_items (thn (he.run pins s σ H _ I h) fun u s1 ⟨x, H1, I1, rx, d, o, ex, q⟩ => ?_)
  subst ex
  obtain rfl : u = Value.ref d := rx
  rcases q with ⟨kvs, hd, q⟩ | ⟨kvs, hd, q⟩
  · obtain ⟨hs, hgd, hx, es, ep, vs, hdt, hsz, kv, hm⟩ := I1.frzK hd
    have hl : kvs.length = vs.length := Paired.length kv
    refine ⟨hm.dictOf.typeIs, hm.dictOf.mapOf.noDict, ?_⟩
    have I2 : Inv X pins σ H1 { s1 with heap := s1.heap.push { cls := .type "dict_items", data := .fields #[.ref d] } } := I1.kept (t' := s1.toks) fun b ob q => Heap.get?_push_of_some _ q
    have fin : wpAny (model X.prog X.w) X.A (pyIter (.ref s1.heap.objs.size)) (PIE X pins σ (.Tuple elts kk tpos) R) X.xe { s1 with heap := s1.heap.push { cls := .type "dict_items", data := .fields #[.ref d] } } := by
      refine wpAny_pyIter_items (d := d) (knd := mixKind X.prog X.w) ⟨_, Heap.get?_push_size _ rfl, rfl, rfl⟩ (hm.push _) (pi_one (tk := s1.toks) I2 _ (turn_items _ hdt) ⟨.none, .none, ?_⟩ q)
      rw [hl]
      exact Heap.get?_push_size _ rfl
    show wpAny _ _ (callWith cpos (.builtin "dict.items") [.ref d] [] []) _ X.xe s1
    exact method_meetsIn F.slot_dict_items F.entry_dict_items rfl (PySem.evalArgs_none ⟨rfl, hm.dictOf.typeIs, F.args_dict_items_1 _, _, meets_dict_items (mixKind X.prog X.w) d hs, ⟨vs, hm.dictOf⟩, fin⟩)
  · obtain ⟨hs, hgd, hx, es, ep, hdt, hsz, ent⟩ := frz_dT I1 hd
    have raw : DT.Raw s1.heap d es ep := ⟨o, hgd, hx, hdt⟩
    refine ⟨raw.typeIs, fun b eb => by cases eb; exact ⟨o, hgd, hx.2.1⟩, ?_⟩
    have I2 : Inv X pins σ H1 { s1 with heap := s1.heap.push { cls := .type "dict_items", data := .fields #[.ref d] } } := I1.kept (t' := s1.toks) fun b ob q => Heap.get?_push_of_some _ q
    have fin : wpAny (model X.prog X.w) X.A (pyIter (.ref s1.heap.objs.size)) (PIE X pins σ (.Tuple elts kk tpos) R) X.xe { s1 with heap := s1.heap.push { cls := .type "dict_items", data := .fields #[.ref d] } } := by
      refine DT.iterI (d := d) (es := es) (ep := ep) ⟨_, Heap.get?_push_size _ rfl, rfl, rfl⟩ (raw.push _) (pi_one (tk := s1.toks) I2 _ (turn_itemsT _ hdt) ⟨.none, .none, ?_⟩ q)
      rw [← hsz]
      exact Heap.get?_push_size _ rfl
    show wpAny _ _ (callWith cpos (.builtin "dict.items") [.ref d] [] []) _ X.xe s1
    exact method_meetsIn F.slot_dict_items F.entry_dict_items rfl (PySem.evalArgs_none ⟨rfl, raw.typeIs, F.args_dict_items_1 _, _, DT.meetsItems (es := es) (ep := ep) hs, raw, fin⟩)
end
/-! ### walks -/
section
variable {K : PySem.W.Frag} {a b d : Addr} {xs ys : List V} {o : Obj}
theorem walk_enumT : Walk (IteT K a) xs.length (fun H => SqT K H a xs) (YPair (fun i => some (.int (i : Nat))) (fun i => xs[i]?)) := by
  refine ⟨fun i _ hi q => ⟨xs, xs[i], q, by simp [hi]⟩, fun _ q => ⟨xs, q, Nat.le_refl _⟩, fun i H v H' _ q y => ?_⟩
  obtain ⟨T, x, h1, h2, h3, h4⟩ := y
  exact ⟨T, _, x, h1, h2, h3, rfl, h4 _ q⟩
theorem walk_zipT {n : Nat} (hn : n = min xs.length ys.length) : Walk (RZ.ItzT K a b) n (fun H => SqT K H a xs ∧ SqT K H b ys) (YPair (fun i => xs[i]?) (fun i => ys[i]?)) := by
  subst hn
  refine ⟨fun i _ hi q => ?_, fun _ q => ⟨xs, ys, q.1, q.2, by omega⟩, fun i H v H' _ q y => ?_⟩
  · exact ⟨xs, ys, xs[i]'(by omega), ys[i]'(by omega), q.1, q.2, by simp, by simp⟩
  · obtain ⟨T, x, z, h1, h2, h3, h4, h5⟩ := y
    exact ⟨T, x, z, h1, h2, h3, h4 _ q.1, h5 _ q.2⟩
theorem walk_itemsT {kvs : List (NestedKey × Addr × V)} : Walk (ItiT d o kvs) kvs.length (fun H => H d = some (.frz o (tabO d kvs)))
    (YPair (fun i => kvs[i]?.map fun e => V.ref e.2.1) (fun i => kvs[i]?.map fun e => e.2.2)) := by
  refine ⟨fun _ _ hi q => ⟨q, hi⟩, fun _ q => ⟨q, Nat.le_refl _⟩, fun i H x H' _ _ y => ?_⟩
  obtain ⟨T, e, h1, h2, h3, h4⟩ := y
  exact ⟨T, _, _, h2, h3, h4, by simp [h1], by simp [h1]⟩
end
end DL
/-! DL, part Nb: zip of two, each a list or a tuple. -/
namespace DL
open PySem PySem.Spec PyProof.Rows L2 PySem.W
def SqB (t : Bool) (K : PySem.W.Frag) (H : Hp) (a : Addr) (xs : List V) : Prop := if t = true then SqT K H a xs else SqL K H a xs
def ItB (t : Bool) (h : Heap) (it a : Addr) (i : Nat) : Prop := if t = true then h.IsTupleIter it a i else h.IsListIter it a i
def IsB (t : Bool) (h : Heap) (a : Addr) (items : Array Value) : Prop := if t = true then h.IsTuple a items else h.IsList a items
def objB (t : Bool) (a : Addr) : Obj := { cls := .type (if t = true then "tuple_iterator" else "list_iterator"), data := .fields #[.ref a, .int 0 0] }
theorem drawsB {prog : Program} {w : World} {A : Around} (t : Bool) (hh : A.handled = none) (it l : Addr) (hne : l ≠ it) (items : Array Value) :
    Draws prog w A it [it, l] items.size (fun i v => items[i]? = some v) (fun i h => ItB t h it l i ∧ IsB t h l items) := by
  cases t
  · exact Draws.list hh it l hne items
  · exact Draws.tuple hh it l hne items
theorem beginsB (t : Bool) (l : Addr) (items : Array Value) : Begins (.ref l) (objB t l) fun h => IsB t h l items := by
  cases t
  · exact begins_list l items
  · exact begins_tuple l items
theorem sqB_at {X : Cx} {pins : List (Addr × Obj)} {σ : L2.St} {H : Hp} {s : Shared} {t : Bool} {a : Addr} {xs : List V} (I : Inv X pins σ H s) (h : SqB t X.K H a xs) : ∃ its, Vals xs its ∧ IsB t s.heap a its.toArray ∧ a < s.heap.objs.size := by
  cases t
  · obtain ⟨its, rv, p, _⟩ := I.list h
    exact ⟨its, rv, p.isList, p.lt⟩
  · obtain ⟨its, rv, p, _⟩ := I.tuple h
    obtain ⟨o, ho, q⟩ := id p
    exact ⟨its, rv, ⟨o, ho, q⟩, Heap.lt_size ho⟩
theorem sqB_inj {X : Cx} {pins : List (Addr × Obj)} {σ : L2.St} {H : Hp} {s : Shared} {t : Bool} {a : Addr} {xs ys : List V} (I : Inv X pins σ H s) (h : SqB t X.K H a xs) (h' : SqB t X.K H a ys) : xs = ys := by
  cases t
  · exact I.list_inj h h'
  · exact I.tuple_inj h h'
theorem itB_obj {t : Bool} {h : Heap} {it a : Addr} {i : Nat} (q : ItB t h it a i) : ∃ o, h.get? it = some o ∧ o.data = .fields #[.ref a, .int i 0] := by
  cases t
  · obtain ⟨o, e, _, d⟩ := q; exact ⟨o, e, d⟩
  · obtain ⟨o, e, _, d⟩ := q; exact ⟨o, e, d⟩
theorem itB_keep {t : Bool} {h h' : Heap} {it a : Addr} {i : Nat} (q : ItB t h it a i) (k : ∀ o, h.get? it = some o → h'.get? it = some o) : ItB t h' it a i := by
  cases t
  · exact Heap.IsListIter.at q fun o e => k o e
  · exact Heap.IsTupleIter.at q fun o e => k o e
theorem itB_new {t : Bool} {h : Heap} {it a : Addr} (e : h.get? it = some (objB t a)) : ItB t h it a 0 := by
  cases t
  · exact ⟨_, e, rfl, rfl⟩
  · exact ⟨_, e, rfl, rfl⟩
def ItzB (t u : Bool) (K : PySem.W.Frag) (a b : Addr) : L2.It :=
  ⟨fun i H => ∃ (xs ys : List V) (x y : V), SqB t K H a xs ∧ SqB u K H b ys ∧ xs[i]? = some x ∧ ys[i]? = some y,
    fun i H v H' => ∃ T x y, v = .ref T ∧ H T = none ∧ H' = upd H T (.tup [x, y]) ∧ (∀ xs, SqB t K H a xs → xs[i]? = some x) ∧ ∀ ys, SqB u K H b ys → ys[i]? = some y,
    fun i H => ∃ xs ys : List V, SqB t K H a xs ∧ SqB u K H b ys ∧ i ≤ xs.length ∧ i ≤ ys.length ∧ (xs.length = i ∨ ys.length = i)⟩
theorem turn_zipB {P : Program} {w : World} {K : PySem.W.Frag} {elts : List Expr} {kk : Nat} {tpos : Pos} {t u : Bool} {a b z TI TO i1 i2 : Addr} (D : ZipApart z TI TO i1 i2 a b) (hbi : b ≠ i1) (hai : a ≠ i2) (ha1 : a ≠ i1) (hb2 : b ≠ i2) (hbz : b ≠ z) (hbO : b ≠ TO) :
    Turn P w K (.Tuple elts kk tpos) (ItzB t u K a b) [z, TI, TO, i1, i2] z (fun i h => IsZip h z TI TO .none ∧ IsTupOf2 h TI (.ref i1) (.ref i2) ∧ (∃ x y, IsTupOf2 h TO x y) ∧ ItB t h i1 a i ∧ ItB u h i2 b i) where
  mem := List.mem_cons_self
  obj := fun i h st c hc => by
    obtain ⟨hz, hTI, ⟨x, y, hTO⟩, q1, q2⟩ := st
    obtain ⟨o1, e1, d1⟩ := itB_obj q1
    obtain ⟨o2, e2, d2⟩ := itB_obj q2
    have e' : c = z ∨ c = TI ∨ c = TO ∨ c = i1 ∨ c = i2 := by simpa using hc
    rcases e' with q | q | q | q | q
    · rw [q]; exact ⟨_, hz, fun v q => nomatch q⟩
    · rw [q]; exact ⟨_, hTI, fun v q => nomatch q⟩
    · rw [q]; exact ⟨_, hTO, fun v q => nomatch q⟩
    · rw [q]; exact ⟨o1, e1, fun v q => by rw [d1] at q; cases q⟩
    · rw [q]; exact ⟨o2, e2, fun v q => by rw [d2] at q; cases q⟩
  keep := fun i h h' st k => by
    obtain ⟨hz, hTI, ⟨x, y, hTO⟩, h1, h2⟩ := st
    exact ⟨k z (by simp) _ hz, k TI (by simp) _ hTI, ⟨x, y, k TO (by simp) _ hTO⟩, itB_keep h1 fun o q => k i1 (by simp) o q, itB_keep h2 fun o q => k i2 (by simp) o q⟩
  item := by
    intro X hP hw hK hc i pins s σ H E I hf st hg
    subst hP hw hK
    obtain ⟨hz, hTI, ⟨x0, y0, hTO⟩, h1, h2⟩ := st
    obtain ⟨xs, ys, x, y, hqx, hqy, hx, hy⟩ := hg
    obtain ⟨its, rv, p, _⟩ := sqB_at I hqx
    obtain ⟨its2, rv2, p2, _⟩ := sqB_at I hqy
    obtain ⟨v1, hu, ru⟩ := rv.get hx
    obtain ⟨v2, hu2, ru2⟩ := rv2.get hy
    have hzl : z < s.heap.objs.size := Heap.lt_size hz
    have S : ZipSep2 z TI TO i1 i2 [i1, a] [i2, b] := ⟨D.TIz, D.TOz, D.TITO, D.TIi1, by simp, by simp; exact ⟨D.i1z.symm, D.l1z.symm⟩, by simp; exact ⟨D.TOi1, D.l1TO.symm⟩, D.TIi2, by simp, by simp; exact ⟨D.i2z.symm, hbz.symm⟩, by simp; exact ⟨D.TOi2, hbO.symm⟩, by simp; exact ⟨D.i12, hbi.symm⟩, by simp; exact ⟨D.i12.symm, hai.symm⟩⟩
    have lt1 : i < its.toArray.size := by have := (List.getElem?_eq_some_iff.mp hu).1; simpa using this
    have lt2 : i < its2.toArray.size := by have := (List.getElem?_eq_some_iff.mp hu2).1; simpa using this
    refine wpAny_pyNext_zipD2_item S (drawsB t (A := X.A.in1) (I.ok.hd hc) i1 a ha1 its.toArray) (drawsB u (A := X.A.in1) (I.ok.hd hc) i2 b hb2 its2.toArray) hz hTI hTO ⟨h1, p⟩ ⟨h2, p2⟩ lt1 lt2 fun w1 w2 h' tk ew1 ew2 z' TO' h1' h2' hT hsz hk => ?_
    obtain rfl : v1 = w1 := by
      have e1 : its.toArray[i]? = some v1 := by simpa using hu
      rw [e1] at ew1; exact Option.some.inj ew1
    obtain rfl : v2 = w2 := by
      have e1 : its2.toArray[i]? = some v2 := by simpa using hu2
      rw [e1] at ew2; exact Option.some.inj ew2
    refine ⟨_, rfl, wpAny_letOwnedTupleGo_zip (s := { s with heap := h', toks := tk }) z' fun h'' z'' sb => ?_⟩
    have hT2 : h''.get? s.heap.objs.size = some { cls := .type "tuple", data := .seq #[v1, v2] } := (sb.2 _ (Nat.ne_of_gt hzl)).trans hT
    have new : ObjOk X.prog X.w (upd H s.heap.objs.size (.tup [x, y])) h'' s.heap.objs.size (.tup [x, y]) :=
      ⟨show 2 ≤ sizeLine by decide, [v1, v2], .cons ru (.cons ru2 .nil), ⟨_, hT2, rfl, _, rfl⟩⟩
    have I1 : Inv X pins σ (upd H s.heap.objs.size (.tup [x, y])) { s with heap := h'', toks := tk } :=
      I.turnedNew (ch := [z, TI, TO, i1, i2]) (fun c o hb q => (sb.2 c (fun q' => hb (by simp [q']))).trans (hk c o (fun q' => hb (by simp [q'])) (fun q' => hb (by simp [q'])) (fun q' => hb (by simp [q'])) (fun q' => hb (by simp [q'])) q)) hf (Nat.le_refl _) new
    refine ⟨.ref s.heap.objs.size, _, I1, rfl, ⟨_, x, y, rfl, I.hok.fresh (Nat.le_refl _), rfl, fun l hl => by rw [sqB_inj I hl hqx]; exact hx, fun l hl => by rw [sqB_inj I hl hqy]; exact hy⟩, ⟨z'', ?_, ⟨v1, v2, ?_⟩, ?_, ?_⟩, fun c hcm => ?_⟩
    · exact (sb.2 _ D.TIz).trans (hk _ _ D.TIz D.TITO D.TIi1 D.TIi2 hTI)
    · exact (sb.2 _ D.TOz).trans TO'
    · exact itB_keep h1'.1 fun o q => (sb.2 _ D.i1z).trans q
    · exact itB_keep h2'.1 fun o q => (sb.2 _ D.i2z).trans q
    · have hlt : c < s.heap.objs.size := by
        have e' : c = z ∨ c = TI ∨ c = TO ∨ c = i1 ∨ c = i2 := by simpa using hcm
        rcases e' with q | q | q | q | q
        · rw [q]; exact hzl
        · rw [q]; exact Heap.lt_size hTI
        · rw [q]; exact Heap.lt_size hTO
        · rw [q]; obtain ⟨_, e1, _⟩ := itB_obj h1; exact Heap.lt_size e1
        · rw [q]; obtain ⟨_, e2, _⟩ := itB_obj h2; exact Heap.lt_size e2
      rw [upd_ne (Nat.ne_of_lt hlt)]
      exact (hf c hcm).1
  done := by
    intro X hP hw hK hc i pins s σ H E I hf st hg
    subst hP hw hK
    obtain ⟨hz, hTI, ⟨x0, y0, hTO⟩, h1, h2⟩ := st
    obtain ⟨xs, ys, hqx, hqy, hl1, hl2, hend⟩ := hg
    obtain ⟨its, rv, p, _⟩ := sqB_at I hqx
    obtain ⟨its2, rv2, p2, _⟩ := sqB_at I hqy
    have l1 := rv.length
    have l2 := rv2.length
    have S : ZipSep2 z TI TO i1 i2 [i1, a] [i2, b] := ⟨D.TIz, D.TOz, D.TITO, D.TIi1, by simp, by simp; exact ⟨D.i1z.symm, D.l1z.symm⟩, by simp; exact ⟨D.TOi1, D.l1TO.symm⟩, D.TIi2, by simp, by simp; exact ⟨D.i2z.symm, hbz.symm⟩, by simp; exact ⟨D.TOi2, hbO.symm⟩, by simp; exact ⟨D.i12, hbi.symm⟩, by simp; exact ⟨D.i12.symm, hai.symm⟩⟩
    refine wpAny_pyNext_zipD2_end S (drawsB t (A := X.A.in1) (I.ok.hd hc) i1 a ha1 its.toArray) (drawsB u (A := X.A.in1) (I.ok.hd hc) i2 b hb2 its2.toArray) hz hTI hTO ⟨h1, p⟩ ⟨h2, p2⟩ (by simp; omega) (by simp; omega) (by simp; omega) fun h' tk hk => ⟨rfl, I.turnedL (ch := [z, TI, TO, i1, i2]) (fun c o hb q =>
      hk c o (fun q' => hb (by simp [q'])) (fun q' => hb (by simp [q'])) (fun q' => hb (by simp [q'])) (fun q' => hb (by simp [q'])) q) hf⟩
  self := fun A i s Q E st h => wpAny_pyIter_zip st.1 h
def iZipB (K : PySem.W.Frag) (ta : TA) : TI := fun σ H R => ta σ H fun vs H1 => ∃ t u a b xs ys, vs = [.ref a, .ref b] ∧ SqB t K H1 a xs ∧ SqB u K H1 b ys ∧ R (ItzB t u K a b) H1
theorem pi_zipB {X : Cx} {e e2 : Expr} {ta : TA} {p pos tpos : Pos} {elts : List Expr} {kk : Nat} (hg : Gl X "zip") (hm : X.mg "zip" = none) (ha : PA X [e, e2] ta)
    (hs : starEach [e, e2] X.env = (false, eval e X.env) :: starEach [e2] X.env) (hpl : (backTo pos (starEach [e2] X.env)).any (·.1) = false) :
    PI X (.Tuple elts kk tpos) (.Call (.Name "zip" p) [e, e2] [] pos) (iZipB X.K ta) := by
  refine ⟨fun pins s σ H R I h => ?_⟩
  refine Call_ (ld_blt I hg hm PyProof.Rows.boot_zip (PyProof.Rows.callWith_type1 (thn (ha.run pos pins s σ H _ I h) fun us s1 ⟨vs, H1, I1, r1, q1⟩ => ?_) hs hpl))
  obtain ⟨t, u, a, b, xs, ys, ex, hqx, hqy, q⟩ := q1
  subst ex
  cases r1 with
  | cons r rr =>
    cases rr with
    | cons r' rr =>
      cases rr
      cases r
      cases r'
      have fresh5 : ∀ c, c ∈ [s1.heap.objs.size + 4, s1.heap.objs.size + 2, s1.heap.objs.size + 3, s1.heap.objs.size, s1.heap.objs.size + 1] → FpOk X pins H1 c := fun c hcm => by
        have e' : c = s1.heap.objs.size + 4 ∨ c = s1.heap.objs.size + 2 ∨ c = s1.heap.objs.size + 3 ∨ c = s1.heap.objs.size ∨ c = s1.heap.objs.size + 1 := by simpa using hcm
        have hle : s1.heap.objs.size ≤ c := by
          rcases e' with z | z | z | z | z
          · rw [z]; exact Nat.le_add_right _ _
          · rw [z]; exact Nat.le_add_right _ _
          · rw [z]; exact Nat.le_add_right _ _
          · rw [z]; exact Nat.le_refl _
          · rw [z]; exact Nat.le_add_right _ _
        exact I1.fpOk hle (I1.hok.fresh hle)
      obtain ⟨its, rv, p1, la⟩ := sqB_at I1 hqx
      obtain ⟨its2, rv2, p2, lb⟩ := sqB_at I1 hqy
      refine zip_begins2 (beginsB t a its.toArray) (beginsB u b its2.toArray) p1 p2 fun h' hz hTI hTO h1 h2 hsz hk => wpAny_pyIter_zip hz ?_
      have I2 : Inv X pins σ H1 { s1 with heap := h' } := I1.kept (t' := s1.toks) hk
      have ne : ∀ {x y : Nat}, x < y → (x : Addr) ≠ y := fun h => Nat.ne_of_lt h
      exact ⟨s1.heap.objs.size + 4, [s1.heap.objs.size + 4, s1.heap.objs.size + 2, s1.heap.objs.size + 3, s1.heap.objs.size, s1.heap.objs.size + 1], _, _, H1, rfl, I2, turn_zipB (PySem.W.ktu_apart s1.heap.objs.size a b la lb) (ne lb) (ne (Nat.lt_of_lt_of_le la (Nat.le_add_right _ _))) (ne la) (ne (Nat.lt_of_lt_of_le lb (Nat.le_add_right _ _))) (ne (Nat.lt_of_lt_of_le lb (Nat.le_add_right _ _))) (ne (Nat.lt_of_lt_of_le lb (Nat.le_add_right _ _))), ⟨hz, hTI, ⟨_, _, hTO⟩, itB_new h1, itB_new h2⟩, fresh5, q⟩
section
variable {K : PySem.W.Frag} {a b : Addr} {xs ys : List V}
theorem walk_zipB {t u : Bool} {n : Nat} (hn : n = min xs.length ys.length) : Walk (ItzB t u K a b) n (fun H => SqB t K H a xs ∧ SqB u K H b ys) (YPair (fun i => xs[i]?) (fun i => ys[i]?)) := by
  subst hn
  refine ⟨fun i _ hi q => ?_, fun _ q => ⟨xs, ys, q.1, q.2, by omega, by omega, by omega⟩, fun i H v H' _ q y => ?_⟩
  · exact ⟨xs, ys, xs[i]'(by omega), ys[i]'(by omega), q.1, q.2, by simp, by simp⟩
  · obtain ⟨T, x, z, h1, h2, h3, h4, h5⟩ := y
    exact ⟨T, x, z, h1, h2, h3, h4 _ q.1, h5 _ q.2⟩
end
end DL
/-! DL, part O: ranges, methods, isinstance. -/
namespace DL
open PySem PySem.Spec PyProof.Rows L2 PySem.W
/-! ### ranges -/
abbrev TRg := L2.St → Hp → (Int → Int → Nat → Hp → Prop) → Prop
/-- an expression that makes a range: lo, lo + c, .. (n of them) -/
def PRC (X : Cx) (e : Expr) (t : TRg) : Prop :=
  ∀ (pins : List (Addr × Obj)) (s : Shared) (σ : L2.St) (H : Hp) (Q : Int → Int → Nat → Hp → Prop), Inv X pins σ H s → t σ H Q →
    wpAny (model X.prog X.w) X.A (eval e X.env) (fun x s' => ∃ r a b c n t u v H', x = .ref r ∧ IsRange s'.heap r a b c t u v ∧ RgC a b c n ∧ n ≤ 2 ^ 24 ∧ Inv X pins σ H' s' ∧ Q a c n H') X.xe s
section
variable {X : Cx} {tg e : Expr}
def tRC (ta : TA) : TRg := fun σ H Q => ta σ H fun vs H1 => (∃ b c : Int, ∃ n : Nat, vs = [.int b] ∧ c = 1 ∧ RgC 0 b 1 n ∧ n ≤ 2 ^ 24 ∧ Q 0 1 n H1) ∨ (∃ a b : Int, ∃ n : Nat, vs = [.int a, .int b] ∧ RgC a b 1 n ∧ n ≤ 2 ^ 24 ∧ Q a 1 n H1) ∨
  (∃ a b c : Int, ∃ n : Nat, vs = [.int a, .int b, .int c] ∧ RgC a b c n ∧ n ≤ 2 ^ 24 ∧ Q a c n H1)
theorem prc_any {a : Expr} {as : List Expr} {ta : TA} {p pos : Pos} (hg : Gl X "range") (hm : X.mg "range" = none) (ha : PA X (a :: as) ta)
    (hs : starEach (a :: as) X.env = (false, eval a X.env) :: starEach as X.env) (hpl : (backTo pos (starEach as X.env)).any (·.1) = false) :
    PRC X (.Call (.Name "range" p) (a :: as) [] pos) (tRC ta) := by
  intro pins s σ H Q I h
  refine Call_ (ld_blt I hg hm boot_range (PyProof.Rows.callWith_type1 (thn (ha.run pos pins s σ H _ I h) fun us s1 ⟨vs, H1, I1, r1, q1⟩ => ?_) hs hpl))
  rcases q1 with ⟨b, c, n, rfl, rfl, rc, hn, q⟩ | ⟨a, b, n, rfl, rc, hn, q⟩ | ⟨a, b, c, n, rfl, rc, hn, q⟩
  · obtain ⟨u, us', rfl, ru, t⟩ := vals_cons r1
    cases t
    obtain ⟨t, rfl⟩ := ru
    exact call_range_1 ⟨_, 0, b, 1, n, _, _, _, H1, rfl, IsRange.new _ _ _ _ _ _ _, rc, hn, I1.kept fun b u e => Heap.get?_push_of_some _ e, q⟩
  · obtain ⟨u, us', rfl, ru, t⟩ := vals_cons r1
    obtain ⟨u', us', rfl, ru', t⟩ := vals_cons t
    cases t
    obtain ⟨t, rfl⟩ := ru
    obtain ⟨t', rfl⟩ := ru'
    exact call_range_2 ⟨_, a, b, 1, n, _, _, _, H1, rfl, IsRange.new _ _ _ _ _ _ _, rc, hn, I1.kept fun b u e => Heap.get?_push_of_some _ e, q⟩
  · obtain ⟨u, us', rfl, ru, t⟩ := vals_cons r1
    obtain ⟨u', us', rfl, ru', t⟩ := vals_cons t
    obtain ⟨u'', us', rfl, ru'', t⟩ := vals_cons t
    cases t
    obtain ⟨t, rfl⟩ := ru
    obtain ⟨t', rfl⟩ := ru'
    obtain ⟨t'', rfl⟩ := ru''
    obtain ⟨c0, c1, c2, c3⟩ := id rc
    refine call_range_3 c0 ?_ (.inl (PyProof.noPylong_small c1))
    exact ⟨_, a, b, c, n, _, _, _, H1, rfl, IsRange.new _ _ _ _ _ _ _, rc, hn, I1.kept fun b u e => Heap.get?_push_of_some _ e, q⟩
def iRC (t : TRg) : TI := fun σ H R => t σ H fun a c n H1 => R (Itc a c n) H1
theorem pi_rc {t : TRg} (he : PRC X e t) : PI X tg e (iRC t) := by
  refine ⟨fun pins s σ H R I h => ?_⟩
  refine thn (he pins s σ H _ I h) fun x s1 ⟨r, a, b, c, n, t, u, v, H1, ex, hr, rc, hn, I1, q⟩ => ?_
  subst ex
  obtain ⟨c0, c1, c2, c3⟩ := rc
  refine wpAny_pyIter_range hr c2 (pi_one (tk := s1.toks) I1 _ (turn_rangeC _ a c n) ?_ q)
  have e1 : a + ((0 : Nat) : Int) * c = a := by simp
  have e2 : (n : Int) - ((0 : Nat) : Int) = Builtin.Range.rangeSize a b c := by rw [c3]; simp
  show IsRangeIter _ _ (a + ((0 : Nat) : Int) * c) ((n : Int) - ((0 : Nat) : Int)) c
  rw [e1, e2]
  exact Heap.get?_push_size _ rfl
/-- the ints as values -/
def rcV (a c : Int) (n : Nat) : List V := (List.range n).map fun (i : Nat) => V.int (a + (i : Nat) * c)
theorem rcV_length (a c : Int) (n : Nat) : (rcV a c n).length = n := by unfold rcV; rw [List.length_map, List.length_range]
theorem vals_rc {a c : Int} {n : Nat} {acc : Array Value} (h : ItemsOf (fun i v => ∃ t, v = .int (a + i * c) t) acc n) : Vals (rcV a c n) acc.toList := by
  have e : acc.toList.length = n := by rw [Array.length_toList]; exact h.1
  unfold rcV
  rw [← e]
  refine vals_of_get acc.toList _ fun j u hj => ?_
  obtain ⟨t, rfl⟩ := h.2 j u (by rw [← hj, Array.getElem?_toList])
  exact ⟨t, rfl⟩
theorem rcV_rep {ds : Addr} {L : Addr → Prop} {H : Hp} (a c : Int) (n : Nat) : RepL ds L H (rangeD a c n) (rcV a c n) := by
  unfold rangeD rcV
  have e1 : (List.range n).map (fun (k : Nat) => D.int (a + (k : Int) * c)) = ((List.range n).map fun (k : Nat) => (a + (k : Int) * c)).map D.int := by rw [List.map_map]; rfl
  have e2 : (List.range n).map (fun (k : Nat) => V.int (a + (k : Nat) * c)) = ((List.range n).map fun (k : Nat) => (a + (k : Int) * c)).map V.int := by rw [List.map_map]; rfl
  rw [e1, e2]
  exact RepL.of_ints _
def tLstC (t : TRg) : TE := fun σ H Q => t σ H fun a c n H1 => ∀ q, H1 q = none → Q (.ref q) (upd H1 q (.lst (rcV a c n)))
def tTupC (t : TRg) : TE := fun σ H Q => t σ H fun a c n H1 => NewT H1 Q (rcV a c n)
theorem pe_listC {p pos : Pos} {t : TRg} (hc : X.calm = true) (hg : Gl X "list") (hm : X.mg "list" = none) (he : PRC X e t) (na : starEach [e] X.env = (false, eval e X.env) :: starEach [] X.env) : PE X (.Call (.Name "list" p) [e] [] pos) (tLstC t) := by
  refine ⟨fun pins s σ H Q I h => ?_⟩
  refine Call_ (ld_blt I hg hm boot_list (PyProof.Rows.callWith_type1 (args_cons (thn (he pins s σ H _ I h) fun x s1 ⟨r, a, b, c, n, t, u, v, H1, ex, hr, rc, hn, I1, q⟩ => args_nil ?_) na) na))
  subst ex
  obtain ⟨c0, c1, c2, c3⟩ := rc
  refine call_list_range (n := n) (I1.ok.hd hc) hr c2 c3 hn fun h' tk acc c' hk e' hi => ?_
  refine ⟨.ref s1.heap.objs.size, upd H1 s1.heap.objs.size (.lst (rcV a c n)), I1.laid hk (Nat.le_refl _) (show ObjOk X.prog X.w _ _ _ (.lst (rcV a c n)) from ⟨?_, acc.toList, c', vals_rc hi, ?_⟩), rfl, q _ (I1.hok.fresh (Nat.le_refl _))⟩
  · rw [rcV_length, sizeLine_eq]; omega
  · rw [Array.toArray_toList]; exact e'
theorem pe_tupC {p pos : Pos} {t : TRg} (hc : X.calm = true) (hg : Gl X "tuple") (hm : X.mg "tuple" = none) (he : PRC X e t) (na : starEach [e] X.env = (false, eval e X.env) :: starEach [] X.env) : PE X (.Call (.Name "tuple" p) [e] [] pos) (tTupC t) := by
  refine ⟨fun pins s σ H Q I h => ?_⟩
  refine Call_ (ld_blt I hg hm boot_tuple (PyProof.Rows.callWith_type1 (args_cons (thn (he pins s σ H _ I h) fun x s1 ⟨r, a, b, c, n, t, u, v, H1, ex, hr, rc, hn, I1, q⟩ => args_nil ?_) na) na))
  subst ex
  obtain ⟨c0, c1, c2, c3⟩ := rc
  exact call_tuple_range (n := n) (I1.ok.hd hc) hr c2 c3 hn fun h' tk acc hk hi => laidT (us := acc.toList) (tk := tk) I1 hk (vals_rc hi) (by rw [rcV_length, sizeLine_eq]; omega) q
end

/-! ### methods -/
theorem index_list_D {prog : Program} {w : World} {A : Around} {E : Value → Shared → Prop} {s : Shared} {l : Addr} {vs : Array Value} {xs : List PyData} {x : Value} {d : PyData} {as bs : List Addr} {Q : Value → Shared → Prop} {j : Nat}
    (hl : s.heap.IsList l vs) (rs : ReadsAll s.heap vs.toList xs as) (rx : Reads s.heap x d bs) (hxs : PyData.plainAll xs = true) (hd : d.plain = true) (hu : A.units + 1 + min (PyData.depthAll xs) d.depth < cLine)
    (hp : SeqAt.dataPlace xs d = some j) (hsz : vs.size ≤ sizeLine) (h : Q (.int j s.toks) { s with toks := s.toks + 1 }) : wpAny (model prog w) A (call (.builtin "list.index") [.ref l, x]) Q E s := by
  obtain ⟨⟨cls, dd, data, sl⟩, ho, hc, n, hd'⟩ := id hl
  simp only at hc hd'
  subst hc hd'
  obtain ⟨hj, hit, hno⟩ := SeqAt.hit_at rs hxs hp
  rw [sizeLine_eq] at hsz
  exact call_meets PySem.F.slot_list_index ⟨_, ho, rfl⟩ PySem.F.entry_list_index (PySem.F.args_list_index_2 _ _) (SeqAt.list_indexAt l vs n dd sl x _ j hj (by omega) hit hno) ⟨ho, SeqAt.items_plain rs rx hxs hd hu, h⟩
theorem index_tuple_D {prog : Program} {w : World} {A : Around} {E : Value → Shared → Prop} {s : Shared} {l : Addr} {vs : Array Value} {xs : List PyData} {x : Value} {d : PyData} {as bs : List Addr} {Q : Value → Shared → Prop} {j : Nat}
    (hl : s.heap.IsTuple l vs) (rs : ReadsAll s.heap vs.toList xs as) (rx : Reads s.heap x d bs) (hxs : PyData.plainAll xs = true) (hd : d.plain = true) (hu : A.units + 1 + min (PyData.depthAll xs) d.depth < cLine)
    (hp : SeqAt.dataPlace xs d = some j) (h : Q (.int j s.toks) { s with toks := s.toks + 1 }) : wpAny (model prog w) A (call (.builtin "tuple.index") [.ref l, x]) Q E s := by
  obtain ⟨⟨cls, dd, data, sl⟩, ho, hc, n, hd'⟩ := id hl
  simp only at hc hd'
  subst hc hd'
  obtain ⟨hj, hit, hno⟩ := SeqAt.hit_at rs hxs hp
  exact call_meets PySem.F.slot_tuple_index ⟨_, ho, rfl⟩ PySem.F.entry_tuple_index (PySem.F.args_tuple_index_2 _ _) (_root_.TI.tuple_indexAt l vs n dd sl x _ j hj hit hno) ⟨ho, SeqAt.items_plain rs rx hxs hd hu, h⟩
/-- what a receiver says of its type -/
def RcvT (s : Shared) (u : Value) (T : String) : Prop := s.TypeIs u T ∧ ∀ a, u = .ref a → ∃ ob, s.heap.get? a = some ob ∧ ob.dict = none
section
variable {X : Cx} {pins : List (Addr × Obj)} {σ : L2.St} {s : Shared} {H : Hp}
theorem rcv_lst (I : Inv X pins σ H s) {a : Addr} {vs : List V} (h : H a = some (.lst vs)) : RcvT s (.ref a) "list" := by
  obtain ⟨_, its, n, _, e⟩ := (show ObjOk X.prog X.w H s.heap a (.lst vs) from I.hok a _ h)
  exact ⟨⟨_, e, rfl⟩, fun b eb => by cases eb; exact ⟨_, e, rfl⟩⟩
theorem rcv_tup (I : Inv X pins σ H s) {a : Addr} {vs : List V} (h : GT H a vs) : RcvT s (.ref a) "tuple" := by
  obtain ⟨o, dn, e⟩ := h
  obtain ⟨e1, _, its, _, o', e2, c, _⟩ := (show ObjOk X.prog X.w H s.heap a (.frz o (.tup vs)) from I.hok a _ e)
  rw [e1] at e2
  cases e2
  exact ⟨⟨_, e1, c⟩, fun b eb => by cases eb; exact ⟨_, e1, dn⟩⟩
theorem rcv_dK (I : Inv X pins σ H s) {a : Addr} {vs : List (Key × V)} (h : Rd H a (.dK vs)) : RcvT s (.ref a) "dict" := by
  obtain ⟨z, hd, us, rel, dd⟩ := dk_rd I.hok h
  exact ⟨dd.typeIs, dd.mapOf.noDict⟩
theorem rcv_dT (I : Inv X pins σ H s) {a : Addr} {vs : List (NestedKey × Addr × V)} (h : Rd H a (tabO a vs)) : RcvT s (.ref a) "dict" := by
  obtain ⟨lo, o, es, ep, h1, h2, h3, _⟩ := tab_raw I h
  exact ⟨⟨_, h1, h2.1⟩, fun b eb => by cases eb; exact ⟨_, h1, h2.2.1⟩⟩
/-- a method: the receiver's data d has it -/
def rMth (k : Mt) (m : Nat) (d : D) : V → List V → Hp → VK → Prop := fun x vs H Q => ∃ S O ds z, RepM (mtBase k) S O H d x ∧ RepMs (mtArg k) S O H ds vs ∧ mthD k d ds = some z ∧ Res m S O H Q z
def mtId : Mt → D → String
  | .index, .lst _ => "list.index"
  | .index, _ => "tuple.index"
  | .count, .lst _ => "list.count"
  | .count, _ => "tuple.count"
  | .get1, _ => "dict.get"
  | .get2, _ => "dict.get"
theorem dcut {n : Nat} {xs : List D} (h : plains n xs = true) : PyData.plainAll (toPys xs) = true ∧ PyData.depthAll (toPys xs) ≤ n := plains_py n xs h
theorem mth_run (hu : X.A.units + 64 < cLine) {k : Mt} {m : Nat} (hm : m = 0 ∨ m = 1 ∨ m = 4) {d : D} {x : V} {xs : List V} {v : Value} {us : List Value} {Q : VK} (I : Inv X pins σ H s) (rx : RelV x v) (rv : Vals xs us) (h : rMth k m d x xs H Q) :
    wpAny (model X.prog X.w) X.A (call (.builtin (mtId k d)) (v :: us)) (EP X pins σ Q) X.xe s := by
  obtain ⟨S, O, ds, z, hx, hv, e, hz⟩ := h
  have dm : ∀ (a : PyData) (n : Nat), a.depth ≤ 58 → X.A.units + 1 + min n a.depth < cLine := fun a n h => by
    have := Nat.min_le_right n a.depth
    omega
  have seqI : ∀ {y : V} {uy : Value} {dy : D} {ys : List D} {ws : List V} {its : List Value} {z : D}, idxD dy ys = some z → Rep S.ds (LR O) H dy y → RelV y uy → RepL S.ds (LR O) H ys ws → Vals ws its →
      ∃ (j : Nat) (as bs : List Addr), z = .int (j : Int) ∧ SeqAt.dataPlace (toPys ys) (toPy dy) = some j ∧ ReadsAll s.heap its (toPys ys) as ∧ Reads s.heap uy (toPy dy) bs ∧ PyData.plainAll (toPys ys) = true ∧ (toPy dy).plain = true ∧ (toPy dy).depth ≤ 58 := by
    intro y uy dy ys ws its z e hy ry hs rs
    unfold idxD at e
    split at e
    · rename_i g
      rw [Bool.and_eq_true] at g
      obtain ⟨j, e1, e2⟩ := Option.map_eq_some_iff.mp e
      obtain ⟨bs, q⟩ := hy.reads I g.1 ry
      obtain ⟨as, q2⟩ := Dp.readsAll I _ _ _ (RepL.dp 58 ys ws g.2 hs) rs
      obtain ⟨a1, a2⟩ := plain_py _ _ g.1
      obtain ⟨b1, b2⟩ := plains_py _ _ g.2
      refine ⟨j, as, bs, e2.symm, ?_, q2, q, b1, a1, a2⟩
      unfold SeqAt.dataPlace
      rw [toPys_map, List.findIdx?_map]
      have : (fun y => eqD y dy) = ((fun y => PyData.eqv y (toPy dy)) ∘ toPy) := by
        funext y; exact eqD_py y dy
      rw [← this]
      exact e1
    · cases e
  have seqC : ∀ {y : V} {uy : Value} {dy : D} {ys : List D} {ws : List V} {its : List Value} {z : D}, cntD dy ys = some z → Rep S.ds (LR O) H dy y → RelV y uy → RepL S.ds (LR O) H ys ws → Vals ws its →
      ∃ (as bs : List Addr), z = .int (((toPys ys).countP fun y => PyData.eqv y (toPy dy) : Nat) : Int) ∧ ReadsAll s.heap its (toPys ys) as ∧ Reads s.heap uy (toPy dy) bs ∧ PyData.plainAll (toPys ys) = true ∧ (toPy dy).plain = true ∧ (toPy dy).depth ≤ 58 := by
    intro y uy dy ys ws its z e hy ry hs rs
    unfold cntD at e
    split at e
    · rename_i g
      rw [Bool.and_eq_true] at g
      obtain ⟨bs, q⟩ := hy.reads I g.1 ry
      obtain ⟨as, q2⟩ := Dp.readsAll I _ _ _ (RepL.dp 58 ys ws g.2 hs) rs
      obtain ⟨a1, a2⟩ := plain_py _ _ g.1
      obtain ⟨b1, b2⟩ := plains_py _ _ g.2
      refine ⟨as, bs, ?_, q2, q, b1, a1, a2⟩
      rw [← Option.some.inj e, toPys_map, List.countP_map]
      have : (fun y => eqD y dy) = ((fun y => PyData.eqv y (toPy dy)) ∘ toPy) := by
        funext y; exact eqD_py y dy
      rw [← this]
    · cases e
  unfold mthD at e
  split at e
  · obtain ⟨y, rfl, hy⟩ := hv.one
    obtain ⟨uy, _, rfl, ry, t⟩ := vals_cons rv
    cases t
    cases (show Rep S.ds (LR O) H (.lst _) x from hx) with
    | lst l0 r1 zl i =>
    cases rx
    obtain ⟨its, r, p, _⟩ := I.list (SqL.of r1)
    obtain ⟨j, as, bs, rfl, a1, a2, a3, a4, a5, a6⟩ := seqI e hy ry i r
    have hl := r.length
    exact index_list_D p.isList (by simpa using a2) a3 a4 a5 (dm _ _ a6) a1 (by simp; omega) ⟨.int _, H, I.tok _, ⟨_, rfl⟩, hz.scal (fun _ _ _ => .int _) rfl⟩
  · obtain ⟨y, rfl, hy⟩ := hv.one
    obtain ⟨uy, _, rfl, ry, t⟩ := vals_cons rv
    cases t
    cases (show Rep S.ds (LR O) H (.tup _) x from hx) with
    | tup r1 zl i =>
    cases rx
    obtain ⟨its, r, p, _⟩ := I.tuple (r1.sq (K := X.K))
    obtain ⟨j, as, bs, rfl, a1, a2, a3, a4, a5, a6⟩ := seqI e hy ry i r
    exact index_tuple_D (show s.heap.IsTuple _ its.toArray from p) (by simpa using a2) a3 a4 a5 (dm _ _ a6) a1 ⟨.int _, H, I.tok _, ⟨_, rfl⟩, hz.scal (fun _ _ _ => .int _) rfl⟩
  · obtain ⟨y, rfl, hy⟩ := hv.one
    obtain ⟨uy, _, rfl, ry, t⟩ := vals_cons rv
    cases t
    cases (show Rep S.ds (LR O) H (.lst _) x from hx) with
    | lst l0 r1 zl i =>
    cases rx
    obtain ⟨its, r, p, _⟩ := I.list (SqL.of r1)
    obtain ⟨as, bs, rfl, a2, a3, a4, a5, a6⟩ := seqC e hy ry i r
    exact SeqAt.count_list_data p.isList (by simpa using a2) a3 a4 a5 (dm _ _ a6) ⟨.int _, H, I.tok _, ⟨_, rfl⟩, hz.scal (fun _ _ _ => .int _) rfl⟩
  · obtain ⟨y, rfl, hy⟩ := hv.one
    obtain ⟨uy, _, rfl, ry, t⟩ := vals_cons rv
    cases t
    cases (show Rep S.ds (LR O) H (.tup _) x from hx) with
    | tup r1 zl i =>
    cases rx
    obtain ⟨its, r, p, _⟩ := I.tuple (r1.sq (K := X.K))
    obtain ⟨as, bs, rfl, a2, a3, a4, a5, a6⟩ := seqC e hy ry i r
    exact SeqAt.count_tuple_data (show s.heap.IsTuple _ its.toArray from p) (by simpa using a2) a3 a4 a5 (dm _ _ a6) ⟨.int _, H, I.tok _, ⟨_, rfl⟩, hz.scal (fun _ _ _ => .int _) rfl⟩
  · obtain ⟨y, y2, rfl, hy, hy2⟩ := hv.two
    obtain ⟨uy, _, rfl, ry, t⟩ := vals_cons rv
    obtain ⟨uy2, _, rfl, ry2, t⟩ := vals_cons t
    cases t
    obtain ⟨p, vs, rfl, n, r1, zl, i⟩ := (show Top S O H (.dK _) x from hx)
    cases rx
    obtain ⟨k, e1, e2⟩ := Option.map_eq_some_iff.mp e
    obtain rfl := (show Rep S.ds (LV O) H _ y from hy).key e1
    refine d_get2 (hu1 hu) I (.inl ⟨vs, k, r1, rfl, rfl⟩) ry ry2 fun w' s' I' rw' => ⟨_, H, I', rw', hz.same ?_ (by omega)⟩
    subst e2
    rcases i.get k with ⟨q1, q2⟩ | ⟨d', w, q1, q2, q3⟩
    · rw [q1, q2]; exact RepM.val hy2 (by omega) (by omega)
    · rw [q1, q2]; exact RepM.val q3 (by omega) (by omega)
  · obtain ⟨y, y2, rfl, hy, hy2⟩ := hv.two
    obtain ⟨uy, _, rfl, ry, t⟩ := vals_cons rv
    obtain ⟨uy2, _, rfl, ry2, t⟩ := vals_cons t
    cases t
    obtain ⟨p, vs, rfl, n, r1, zl, i⟩ := (show Top S O H (.dT _) x from hx)
    cases rx
    obtain ⟨k, e1, e2⟩ := Option.map_eq_some_iff.mp e
    obtain ⟨_, e3, _, _, ks⟩ := keyT_of e1
    subst e2
    exact tb_get2 hu I r1 i (by rw [e3]; exact hy) (keyT_ok e1) ks ry hy2 ry2 fun w w' s' I' rw' q => ⟨w, H, I', rw', hz.same (RepM.val q (by omega) (by omega)) (by omega)⟩
  · obtain ⟨y, rfl, hy⟩ := hv.one
    obtain ⟨uy, _, rfl, ry, t⟩ := vals_cons rv
    cases t
    obtain ⟨p, vs, rfl, n, r1, zl, i⟩ := (show Top S O H (.dK _) x from hx)
    cases rx
    obtain ⟨k, e1, e2⟩ := Option.map_eq_some_iff.mp e
    obtain rfl := (show Rep S.ds (LV O) H _ y from hy).key e1
    refine d_get1 (hu1 hu) I (.inl ⟨vs, k, r1, rfl, rfl⟩) ry fun w' s' I' rw' => ⟨_, H, I', rw', hz.same ?_ (by omega)⟩
    subst e2
    rcases i.get k with ⟨q1, q2⟩ | ⟨d', w, q1, q2, q3⟩
    · rw [q1, q2]; exact RepM.val .non (by omega) (by omega)
    · rw [q1, q2]; exact RepM.val q3 (by omega) (by omega)
  · obtain ⟨y, rfl, hy⟩ := hv.one
    obtain ⟨uy, _, rfl, ry, t⟩ := vals_cons rv
    cases t
    obtain ⟨p, vs, rfl, n, r1, zl, i⟩ := (show Top S O H (.dT _) x from hx)
    cases rx
    obtain ⟨k, e1, e2⟩ := Option.map_eq_some_iff.mp e
    obtain ⟨_, e3, _, _, ks⟩ := keyT_of e1
    subst e2
    exact tb_get1 hu I r1 i (by rw [e3]; exact hy) (keyT_ok e1) ks ry fun w w' s' I' rw' q => ⟨w, H, I', rw', hz.same (RepM.val q (by omega) (by omega)) (by omega)⟩
  · cases e
end
/-- a method called -/
def tMth (k : Mt) (m : Nat) (to : TE) (t : TA) : TE := fun σ H Q => to σ H fun x H1 => ∃ S O d, RepM (mtBase k) S O H1 d x ∧ mtOk k d = true ∧ t σ H1 fun vs H2 => rMth k m d x vs H2 Q
theorem pe_mth {X : Cx} {o e : Expr} {es : List Expr} {to : TE} {t : TA} {apos cpos : Pos} {k : Mt} {m : Nat} (hu : X.A.units + 64 < cLine) (hm : m = 0 ∨ m = 1 ∨ m = 4) (ho : PE X o to) (ha : PA X (e :: es) t)
    (hbase : attributeBase o (mtName k) X.env (eval o X.env) = eval o X.env)
    (hfew : ((backTo cpos (starEach (e :: es) X.env)).all (fun x => !x.1) && (backToKw cpos (keywordEach [] X.env)).all (fun x => x.1.isSome)
      && decide ((e :: es).length + ([] : List Keyword).length + (if ([] : List Keyword).isEmpty then 0 else 1) < 30)) = true)
    (hline : (apos.endLine == cpos.line) = true) (hs : starEach (e :: es) X.env = (false, eval e X.env) :: starEach es X.env) (hplain : (backTo cpos (starEach es X.env)).any (·.1) = false) :
    PE X (.Call (.Attribute o (mtName k) apos) (e :: es) [] cpos) (tMth k m to t) := by
  refine ⟨fun pins s σ H Q I h => ?_⟩
  refine wpAny_Call_method_late hbase hfew hline rfl (thn (ho.run pins s σ H _ I h) fun v s1 ⟨x, H1, I1, r1, S, O, d, hd, ok, q1⟩ => ?_)
  have call : wpAny (model X.prog X.w) X.A (callWith cpos (.builtin (mtId k d)) [v] (backTo cpos (starEach (e :: es) X.env)) []) (EP X pins σ Q) X.xe s1 := by
    have hA := ha.run cpos pins s1 σ H1 _ I1 q1
    rw [hs] at hA ⊢
    refine Calls.callWith_builtin (by show (false || (backTo cpos (starEach es X.env)).any (·.1)) = false; rw [hplain] <;> rfl) (Calls.evalArgs_plain ?_)
    exact thn hA fun us s2 ⟨vs, H2, I2, r2, q2⟩ => mth_run hu hm I2 r1 r2 q2
  cases k <;> cases d <;> first | (cases ok; done) | skip
  · cases (show Rep S.ds (LR O) H1 (.tup _) x from hd) with
    | tup g zl i =>
    cases r1
    obtain ⟨a1, a2⟩ := rcv_tup I1 g
    exact ⟨"tuple", "tuple.index", PySem.F.plainAttrs_tuple, PySem.F.slot_tuple_index, PySem.F.type_tuple_index, a1, a2, call⟩
  · cases (show Rep S.ds (LR O) H1 (.lst _) x from hd) with
    | lst l0 g zl i =>
    cases r1
    obtain ⟨a1, a2⟩ := rcv_lst I1 g
    exact ⟨"list", "list.index", PySem.F.plainAttrs_list, PySem.F.slot_list_index, PySem.F.type_list_index, a1, a2, call⟩
  · obtain ⟨p, vs, rfl, n, g, zl, i⟩ := (show Top S O H1 (.dK _) x from hd)
    cases r1
    obtain ⟨a1, a2⟩ := rcv_dK I1 g
    exact ⟨"dict", "dict.get", PySem.F.plainAttrs_dict, PySem.F.slot_dict_get, PySem.F.type_dict_get, a1, a2, call⟩
  · obtain ⟨p, vs, rfl, n, g, zl, i⟩ := (show Top S O H1 (.dT _) x from hd)
    cases r1
    obtain ⟨a1, a2⟩ := rcv_dT I1 g
    exact ⟨"dict", "dict.get", PySem.F.plainAttrs_dict, PySem.F.slot_dict_get, PySem.F.type_dict_get, a1, a2, call⟩
  · obtain ⟨p, vs, rfl, n, g, zl, i⟩ := (show Top S O H1 (.dK _) x from hd)
    cases r1
    obtain ⟨a1, a2⟩ := rcv_dK I1 g
    exact ⟨"dict", "dict.get", PySem.F.plainAttrs_dict, PySem.F.slot_dict_get, PySem.F.type_dict_get, a1, a2, call⟩
  · obtain ⟨p, vs, rfl, n, g, zl, i⟩ := (show Top S O H1 (.dT _) x from hd)
    cases r1
    obtain ⟨a1, a2⟩ := rcv_dT I1 g
    exact ⟨"dict", "dict.get", PySem.F.plainAttrs_dict, PySem.F.slot_dict_get, PySem.F.type_dict_get, a1, a2, call⟩
  · cases (show Rep S.ds (LR O) H1 (.tup _) x from hd) with
    | tup g zl i =>
    cases r1
    obtain ⟨a1, a2⟩ := rcv_tup I1 g
    exact ⟨"tuple", "tuple.count", PySem.F.plainAttrs_tuple, PySem.F.slot_tuple_count, PySem.F.type_tuple_count, a1, a2, call⟩
  · cases (show Rep S.ds (LR O) H1 (.lst _) x from hd) with
    | lst l0 g zl i =>
    cases r1
    obtain ⟨a1, a2⟩ := rcv_lst I1 g
    exact ⟨"list", "list.count", PySem.F.plainAttrs_list, PySem.F.slot_list_count, PySem.F.type_list_count, a1, a2, call⟩
end DL
/-! DL, part P: dict(pairs), sorted(d.items()), isinstance. -/
namespace DL
open PySem PySem.Spec PyProof.Rows L2 PySem.W
section
variable {X : Cx} {pins : List (Addr × Obj)} {σ : L2.St} {s : Shared} {H : Hp} {ds : Addr} {L : Addr → Prop}
structure Prs (X : Cx) (s : Shared) (H : Hp) (ds : Addr) (L : Addr → Prop) (kvs : List (NestedKey × D)) (us : List Value) (es : List (NestedKey × Addr × V)) (ps : List (NestedKey × Addr × Value)) (Ts : List Addr) : Prop where
  rel : Paired TRel es ps
  vals : us = Ts.map Value.ref
  len : Ts.length = ps.length
  tup : ∀ (j : Nat) (T : Addr) (p : NestedKey × Addr × Value), Ts[j]? = some T → ps[j]? = some p → s.heap.IsTuple T #[.ref p.2.1, p.2.2]
  rep : RepT ds L H kvs es
  ok : ∀ e ∈ es, KOk e.1
  key : ∀ p ∈ ps, (nestedKind X.prog X.w).is s.heap p.1 p.2.1
theorem prs_of (I : Inv X pins σ H s) : ∀ {xs : List D} {vs : List V} {us : List Value} {kvs : List (NestedKey × D)}, RepL ds L H xs vs → Vals vs us → xs.mapM toPairT = some kvs → ∃ es ps Ts, Prs X s H ds L kvs us es ps Ts
  | [], _, _, _, h, r, e => by
    cases h; cases r
    simp at e
    subst e
    exact ⟨[], [], [], .nil, rfl, rfl, (fun j T p h => by simp at h), .nil, (fun _ h => nomatch h), fun _ h => nomatch h⟩
  | x :: xs, _, _, _, h, r, e => by
    cases h with
    | @cons _ v _ vs h1 h2 =>
    cases r with
    | @cons _ u _ us r1 r2 =>
    rw [List.mapM_cons] at e
    obtain ⟨kd, e1, e⟩ := Option.bind_eq_some_iff.mp e
    obtain ⟨kds, e2, e⟩ := Option.bind_eq_some_iff.mp e
    cases e
    obtain ⟨es, ps, Ts, q⟩ := prs_of I h2 r2 e2
    unfold toPairT at e1
    split at e1
    · rename_i k d
      obtain ⟨nk, e3, rfl⟩ := Option.map_eq_some_iff.mp e1
      obtain ⟨_, e4, _, _, l, rfl⟩ := keyT_of e3
      cases h1 with
      | tup g zl i =>
      cases i with
      | cons i1 i =>
      cases i with
      | cons i2 i =>
      cases i
      rename_i T vk vd
      cases r1
      obtain ⟨its, rv, ht, _⟩ := I.tuple (g.sq (K := X.K))
      obtain ⟨uk, _, rfl, rk, t⟩ := vals_cons rv
      obtain ⟨ud, _, rfl, rd, t⟩ := vals_cons t
      cases t
      rw [← e4] at i1
      have nk := Rep.nk I _ _ _ i1 rk
      cases nk with
      | @tup b o vs n ks g1 g2 g3 g4 =>
      obtain rfl : vk = .ref b := by
        rw [ofNK] at i1
        cases i1
        cases rk
        rfl
      have ok := keyT_ok e3
      exact ⟨(.tup l, b, vd) :: es, (.tup l, b, ud) :: ps, T :: Ts, .cons ⟨rfl, rfl, rd⟩ q.rel, by rw [q.vals]; rfl, by simp [q.len], fun j T' p hj hp => by
        cases j with
        | zero => simp at hj hp; subst hj hp; exact ht
        | succ j => exact q.tup j T' p (by simpa using hj) (by simpa using hp), .cons i1 i2 q.rep, fun e he => by
        rcases List.mem_cons.mp he with rfl | he
        · exact ok
        · exact q.ok e he, fun p hp => by
        rcases List.mem_cons.mp hp with rfl | hp
        · exact ⟨.tup g1 g2 g3 g4, ok.dp⟩
        · exact q.key p hp⟩
    · cases e1
/-- entries put one after another -/
def tMerge (kvs more : List (NestedKey × Addr × V)) : List (NestedKey × Addr × V) := more.foldl (fun acc e => tPut acc e.1 e.2.1 e.2.2) kvs
theorem TRel.merge : ∀ {more : List (NestedKey × Addr × V)} {ps : List (NestedKey × Addr × Value)} {kvs : List (NestedKey × Addr × V)} {us : List (NestedKey × Addr × Value)}, Paired TRel more ps → Paired TRel kvs us → Paired TRel (tMerge kvs more) (storedAllH us ps)
  | _, _, _, _, .nil, h => h
  | _, _, kvs, us, @Paired.cons _ _ _ ⟨k, b, v⟩ ⟨k2, b2, u⟩ more ps ⟨h1, h2, h3⟩ t, h => by
    cases h1; cases h2
    show Paired TRel (tMerge (tPut kvs k b v) more) (storedAllH (storedH us k b u) ps)
    exact TRel.merge t (TRel.put k b h h3)
theorem RepT.merge : ∀ {more : List (NestedKey × D)} {es : List (NestedKey × Addr × V)} {xs : List (NestedKey × D)} {kvs : List (NestedKey × Addr × V)}, RepT ds L H more es → RepT ds L H xs kvs → RepT ds L H (mergeD xs more) (tMerge kvs es)
  | _, _, _, _, .nil, h => h
  | _, _, xs, kvs, @RepT.cons _ _ _ k b d v more es z r t, h => by
    show RepT ds L H (mergeD (dPut xs k d) more) (tMerge (tPut kvs k b v) es)
    exact RepT.merge t (h.put _ z r)
theorem tMerge_ok : ∀ {more kvs : List (NestedKey × Addr × V)}, (∀ e ∈ more, KOk e.1) → (∀ e ∈ kvs, KOk e.1) → ∀ e ∈ tMerge kvs more, KOk e.1
  | [], _, _, h => h
  | m :: more, kvs, hm, h => tMerge_ok (more := more) (fun e he => hm e (List.mem_cons_of_mem _ he)) fun e he => by
    replace he : e ∈ tPut kvs m.1 m.2.1 m.2.2 := he
    unfold tPut at he
    split at he
    · obtain ⟨p', hp', rfl⟩ := List.mem_map.mp he
      split
      · exact h p' hp'
      · exact h p' hp'
    · rcases List.mem_append.mp he with he | he
      · exact h e he
      · obtain rfl := List.mem_singleton.mp he
        exact hm m List.mem_cons_self
theorem tMerge_length : ∀ (more kvs : List (NestedKey × Addr × V)), (tMerge kvs more).length ≤ kvs.length + more.length
  | [], kvs => Nat.le_refl _
  | m :: more, kvs => by
    have h1 := tMerge_length more (tPut kvs m.1 m.2.1 m.2.2)
    have h2 := tPut_length kvs m.1 m.2.1 m.2.2
    show (tMerge (tPut kvs m.1 m.2.1 m.2.2) more).length ≤ _
    rw [List.length_cons]
    omega
theorem at_range {Ts : List Addr} {ps : List (NestedKey × Addr × Value)} (hl : Ts.length = ps.length) : PairItems s.heap (Ts.map Value.ref).toArray (fun j => Ts.getD j 0) (ps.map fun p => (Value.ref p.2.1, p.2.2)) ↔ ∀ (j : Nat) (T : Addr) (p : NestedKey × Addr × Value), Ts[j]? = some T → ps[j]? = some p → PairAt s.heap T (.ref p.2.1) p.2.2 := by
  constructor
  · intro h j T p h1 h2
    have : PairAt s.heap (Ts.getD j 0) (.ref p.2.1) p.2.2 := (h.2 j (.ref p.2.1) p.2.2 (by rw [List.getElem?_map, h2]; rfl)).2
    rw [List.getD_eq_getElem?_getD, h1] at this
    exact this
  · intro h
    refine ⟨by simp [hl], fun j k v e => ?_⟩
    rw [List.getElem?_map] at e
    obtain ⟨p, h2, e2⟩ := Option.map_eq_some_iff.mp e
    cases e2
    have hj : j < Ts.length := by rw [hl]; exact (List.getElem?_eq_some_iff.mp h2).1
    have h1 : Ts[j]? = some Ts[j] := List.getElem?_eq_getElem hj
    have h3 : Ts.getD j 0 = Ts[j] := by rw [List.getD_eq_getElem?_getD, h1]; rfl
    refine ⟨by simp [h1], ?_⟩
    show PairAt s.heap (Ts.getD j 0) _ _
    rw [h3]
    exact h j _ p h1 h2
theorem dict_of (hc : X.calm = true) (hu : X.A.units + 64 < cLine) {E : Value → Shared → Prop} {Q : VK} {a : Addr} {us : List Value} {kvs : List (NestedKey × D)} {es : List (NestedKey × Addr × V)} {ps : List (NestedKey × Addr × Value)} {Ts : List Addr} (I : Inv X pins σ H s) (q : Prs X s H ds L kvs us es ps Ts) (hz : us.length ≤ sizeLine)
    (hs : PlainSeq "list" s.heap a us.toArray ∨ PlainSeq "tuple" s.heap a us.toArray) (hQ : ∀ p, H p = none → Q (.ref p) (upd H p (tabO p (tMerge [] es)))) : wpAny (model X.prog X.w) X.A (call (.type "dict") [.ref a]) (EP X pins σ Q) E s := by
  have hl : us.length = ps.length := by rw [q.vals, List.length_map, q.len]
  have pit : PairItems s.heap us.toArray (fun j => Ts.getD j 0) (ps.map fun p => (Value.ref p.2.1, p.2.2)) := by
    rw [q.vals]
    exact (at_range q.len).mpr fun j T p h1 h2 => .inl (q.tup j T p h1 h2)
  have hv : PairsHaveH (nestedKind X.prog X.w) (ps.map fun p => (Value.ref p.2.1, p.2.2)).length (PairRel (ps.map fun p => (Value.ref p.2.1, p.2.2))) ps := by
    refine ⟨by simp, fun i key v e => ?_⟩
    have e' : (ps.map fun p => (Value.ref p.2.1, p.2.2))[i]? = some (key, v) := e
    rw [List.getElem?_map] at e'
    obtain ⟨p, h2, e2⟩ := Option.map_eq_some_iff.mp e'
    cases e2
    exact ⟨p.1, p.2.1, h2, rfl⟩
  have ks : KeysStay (nestedKind X.prog X.w) s.heap s.heap.objs.size [] ps := fun h' k x hx => ⟨NestedIs.at (fun b o vs n e _ => k b o (Nat.ne_of_lt (Heap.lt_size e)) (fun h => nomatch h) e) _ _ (q.key x hx).1, (q.key x hx).2⟩
  have rm : (nestedKind X.prog X.w).room X.A.in1.in1 := by
    show X.A.in1.in1.units + 8 < cLine
    have : X.A.in1.in1.units = X.A.units + 1 + 1 := rfl
    omega
  have fin : ∀ (h' : Heap) (tk : Nat), h'.DictOfH (nestedKind X.prog X.w) s.heap.objs.size (storedAllH [] ps) → (∀ b o, b ∉ ([] : List Addr) → s.heap.get? b = some o → h'.get? b = some o) → EP X pins σ Q (.ref s.heap.objs.size) { s with heap := h', toks := tk } := by
    intro h' tk dd kp
    have lo : (s.heap.objs.size == sysModules) = false := by
      simp only [beq_eq_false_iff_ne]
      exact Nat.ne_of_gt I.big
    exact ⟨.ref s.heap.objs.size, _, I.laid (fun b o e => kp b o (fun h => nomatch h) e) (Nat.le_refl _) (tab_ext (tab_new lo (tMerge_ok q.ok (fun _ h => absurd h List.not_mem_nil)) (TRel.merge q.rel .nil) dd)), rfl, hQ _ I.fresh⟩
  rcases hs with hs | hs
  · exact call_dict_pairsH (PairArg.list a us.toArray _ _) (I.ok.hd hc) rm ⟨hs, pit⟩ hv ks (by rw [List.length_map]; omega) fin
  · exact call_dict_pairsH (PairArg.tuple a us.toArray _ _) (I.ok.hd hc) rm ⟨hs, pit⟩ hv ks (by rw [List.length_map]; omega) fin
end
theorem blt_dictT {X : Cx} (hc : X.calm = true) (hu : X.A.units + 64 < cLine) (m : Nat) (hm : m ≠ 3) : CallR X (.type "dict") (rBlt m .dictT) := by
  intro pins s σ H vs us Q I r ⟨S, O, ds, z, h1, h2, hz⟩
  replace h2 : dictTD ds = some z := h2
  unfold dictTD at h2
  split at h2
  · obtain ⟨kvs, e1, rfl⟩ := Option.map_eq_some_iff.mp h2
    obtain ⟨v, rfl, h⟩ := h1.one
    obtain ⟨p, ws, rfl, n, r1, zl, i⟩ := (show Top S O H (.lst _) v from h)
    obtain ⟨u, us', rfl, ru, t⟩ := vals_cons r
    cases t
    cases ru
    obtain ⟨_, its, k, rv, e⟩ := (show ObjOk X.prog X.w H s.heap p (.lst ws) from I.hok p _ r1)
    obtain ⟨es, ps, Ts, q⟩ := prs_of I i rv e1
    have hl := rv.length
    have hl2 : es.length ≤ sizeLine := by
      have a1 := Paired.length q.rel
      have a2 := q.len
      have a3 : its.length = Ts.length := by rw [q.vals, List.length_map]
      omega
    have hl3 := tMerge_length es []
    refine dict_of hc hu I q (by omega) (.inl ⟨_, _, e, rfl, rfl, rfl⟩) (hz.dTn hm (RepT.merge q.rep .nil) (by simp at hl3; omega))
  · obtain ⟨kvs, e1, rfl⟩ := Option.map_eq_some_iff.mp h2
    obtain ⟨v, rfl, h⟩ := h1.one
    replace h : Rep S.ds (LV O) H _ v := h
    cases h with
    | tup g zl i =>
    obtain ⟨u, us', rfl, ru, t⟩ := vals_cons r
    cases t
    cases ru
    obtain ⟨ob, dn, e0⟩ := g
    obtain ⟨e3, _, its, rv, o', e2, c, k, dt⟩ := (show ObjOk X.prog X.w H s.heap _ (.frz ob (.tup _)) from I.hok _ _ e0)
    rw [e3] at e2
    cases e2
    obtain ⟨es, ps, Ts, q⟩ := prs_of I i rv e1
    have hl := rv.length
    have hl2 : es.length ≤ sizeLine := by
      have a1 := Paired.length q.rel
      have a2 := q.len
      have a3 : its.length = Ts.length := by rw [q.vals, List.length_map]
      omega
    have hl3 := tMerge_length es []
    refine dict_of hc hu I q (by omega) (.inr ⟨_, _, e3, c, dn, dt⟩) (hz.dTn hm (RepT.merge q.rep .nil) (by simp at hl3; omega))
  · cases h2
end DL
/-! DL, part Q: sorted(d.items()), isinstance. -/
namespace DL
open PySem PySem.Spec PyProof.Rows L2 PySem.W
section
variable {X : Cx} {pins : List (Addr × Obj)} {σ : L2.St} {s : Shared} {H : Hp} {ds : Addr} {L : Addr → Prop}
/-- the items of a dict, as data -/
def itemsD : D → Option (List D)
  | .dK kvs => some (kvs.map fun kv => .pr (keyD kv.1) kv.2)
  | .dT kvs => some (kvs.map fun kv => .pr (ofNK kv.1) kv.2)
  | _ => none
/-- a dict's raw entries stand for the items -/
structure Ents (s : Shared) (H : Hp) (ds : Addr) (L : Addr → Prop) (d : Addr) (its : List D) (es : Array DictEntry) (ep : Nat) : Prop where
  lo : (d == sysModules) = false
  raw : DT.Raw s.heap d es ep
  size : es.size = its.length
  short : its.length ≤ sizeLine
  ent : ∀ (j : Nat) (e : DictEntry), es[j]? = some e → ∃ kd vd kx vx, its[j]? = some (.pr kd vd) ∧ RelV kx e.key ∧ RelV vx e.val ∧ Rep ds L H kd kx ∧ Rep ds L H vd vx
theorem ents_dK (I : Inv X pins σ H s) {d : Addr} {vs : List (Key × V)} {kvs : List (Key × D)} (hd : Rd H d (.dK vs)) (r : RepK ds L H kvs vs) : ∃ es ep, Ents s H ds L d (kvs.map fun kv => .pr (keyD kv.1) kv.2) es ep := by
  obtain ⟨z, lo, us, rk, o, es, ep, ho, hx, hdt, _, pr, _⟩ := (show ObjOk X.prog X.w H s.heap d (.dK vs) from hd.ok I.hok)
  have go : ∀ {kvs : List (Key × D)} {vs : List (Key × V)} {us : List (Key × Value)} {es : List DictEntry}, RepK ds L H kvs vs → KV vs us → Pairs (mixKind X.prog X.w) es us → es.length = kvs.length ∧
      ∀ (j : Nat) (e : DictEntry), es[j]? = some e → ∃ kd vd kx vx, (kvs.map fun kv => D.pr (keyD kv.1) kv.2)[j]? = some (.pr kd vd) ∧ RelV kx e.key ∧ RelV vx e.val ∧ Rep ds L H kd kx ∧ Rep ds L H vd vx := by
    intro kvs
    induction kvs with
    | nil =>
      intro vs us es h1 h2 h3
      cases h1; cases h2; cases h3
      exact ⟨rfl, fun j e h => by simp at h⟩
    | cons kv kvs ih =>
      intro vs us es h1 h2 h3
      cases h1 with
      | @cons k dd v _ vs r1 r2 =>
      cases h2 with
      | @cons _ q _ us q1 q2 =>
      obtain ⟨k', u⟩ := q
      cases q1.1
      cases h3 with
      | cons p1 pv p2 =>
      obtain ⟨a1, a2⟩ := ih r2 q2 p2
      refine ⟨by simp [a1], fun j e he => ?_⟩
      cases j with
      | zero =>
        simp at he
        subst he
        refine ⟨keyD k, dd, kV k, v, rfl, keyIs_rel p1, by rw [pv]; exact q1.2, ?_, r1⟩
        cases k
        · exact .int _
        · exact .str _
      | succ j =>
        obtain ⟨kd, vd, kx, vx, b1, b2⟩ := a2 j e (by simpa using he)
        exact ⟨kd, vd, kx, vx, by simpa using b1, b2⟩
  obtain ⟨a1, a2⟩ := go r rk pr
  rw [Array.length_toList] at a1
  exact ⟨es, ep, lo, ⟨o, ho, hx, hdt⟩, by rw [List.length_map]; exact a1, by rw [List.length_map, r.length]; exact z, fun j e he => a2 j e (by rw [Array.getElem?_toList]; exact he)⟩
theorem ents_dT (I : Inv X pins σ H s) {d : Addr} {vs : List (NestedKey × Addr × V)} {kvs : List (NestedKey × D)} (hd : Rd H d (tabO d vs)) (hz : vs.length ≤ sizeLine) (r : RepT ds L H kvs vs) : ∃ es ep, Ents s H ds L d (kvs.map fun kv => .pr (ofNK kv.1) kv.2) es ep := by
  obtain ⟨lo, o, es, ep, ho, hx, hdt, pr, _⟩ := tab_raw I hd
  have go : ∀ {kvs : List (NestedKey × D)} {vs : List (NestedKey × Addr × V)} {es : List DictEntry}, RepT ds L H kvs vs → Paired (fun (p : NestedKey × Addr × V) (en : DictEntry) => (∀ w, en.hash = p.1.hash w) ∧ p.1.depth ≤ 8 ∧ en.key = .ref p.2.1 ∧ RelV p.2.2 en.val) vs es → es.length = kvs.length ∧
      ∀ (j : Nat) (e : DictEntry), es[j]? = some e → ∃ kd vd kx vx, (kvs.map fun kv => D.pr (ofNK kv.1) kv.2)[j]? = some (.pr kd vd) ∧ RelV kx e.key ∧ RelV vx e.val ∧ Rep ds L H kd kx ∧ Rep ds L H vd vx := by
    intro kvs
    induction kvs with
    | nil =>
      intro vs es h1 h2
      cases h1; cases h2
      exact ⟨rfl, fun j e h => by simp at h⟩
    | cons kv kvs ih =>
      intro vs es h1 h2
      cases h1 with
      | @cons k b dd v _ vs z r1 r2 =>
      cases h2 with
      | cons q1 q2 =>
      obtain ⟨a1, a2⟩ := ih r2 q2
      refine ⟨by simp [a1], fun j e he => ?_⟩
      cases j with
      | zero =>
        simp at he
        subst he
        obtain ⟨_, _, c1, c2⟩ := q1
        exact ⟨ofNK k, dd, .ref b, v, rfl, c1, c2, z, r1⟩
      | succ j =>
        obtain ⟨kd, vd, kx, vx, b1, b2⟩ := a2 j e (by simpa using he)
        exact ⟨kd, vd, kx, vx, by simpa using b1, b2⟩
  obtain ⟨a1, a2⟩ := go r pr
  rw [Array.length_toList] at a1
  exact ⟨es, ep, lo, ⟨o, ho, hx, hdt⟩, by rw [List.length_map]; exact a1, by rw [List.length_map, r.length]; exact hz, fun j e he => a2 j e (by rw [Array.getElem?_toList]; exact he)⟩
/-- tuples that stand in the heap are tracked, each with its object -/
theorem takeG {h' : Heap} {tk : Nat} (I0 : Inv X pins σ H s) : ∀ (as : List Addr) (vss : List (List V)) (H1 : Hp), Inv X pins σ H1 { s with heap := h', toks := tk } → as.Nodup → as.length = vss.length →
    (∀ (j : Nat) (a : Addr) (vs : List V), as[j]? = some a → vss[j]? = some vs → s.heap.objs.size ≤ a ∧ H1 a = none ∧ ∃ o, o.dict = none ∧ ∀ H2, ObjOk X.prog X.w H2 h' a (.frz o (.tup vs))) →
    ∃ H2, Inv X pins σ H2 { s with heap := h', toks := tk } ∧ (∀ b o, H1 b = some o → H2 b = some o) ∧ ∀ (j : Nat) (a : Addr) (vs : List V), as[j]? = some a → vss[j]? = some vs → GT H2 a vs
  | [], _, H1, I1, _, _, _ => ⟨H1, I1, fun _ _ e => e, fun j a vs h => by simp at h⟩
  | a :: as, [], _, _, _, h, _ => by simp at h
  | a :: as, vs :: vss, H1, I1, hn, hl, h => by
    obtain ⟨hb, hnone, o, dn, ok⟩ := h 0 a vs rfl rfl
    have I2 : Inv X pins σ (upd H1 a (.frz o (.tup vs))) { s with heap := h', toks := tk } := I1.take (h' := h') (t' := tk) (fun b ob _ e => e) (I0.fpOk hb hnone) (ok _)
    rw [List.nodup_cons] at hn
    obtain ⟨H2, I3, g, q⟩ := takeG I0 as vss _ I2 hn.2 (by simpa using hl) fun j c ws h1 h2 => by
      obtain ⟨c1, c2, c3⟩ := h (j + 1) c ws (by simpa using h1) (by simpa using h2)
      refine ⟨c1, ?_, c3⟩
      rw [upd_ne fun z => hn.1 (by rw [← z]; exact List.mem_of_getElem? h1)]
      exact c2
    refine ⟨H2, I3, fun b ob e => g b ob (by rw [upd_ne (ne_of_none e hnone)]; exact e), fun j c ws h1 h2 => ?_⟩
    cases j with
    | zero =>
      simp at h1 h2
      subst h1 h2
      exact ⟨o, dn, g _ _ upd_same⟩
    | succ j => exact q j c ws (by simpa using h1) (by simpa using h2)
end
/-- only new things -/
theorem Ext.grow {S : Sx} {O : Lab} {H H' : Hp} (k : ∀ b o, H b = some o → H' b = some o) : Ext S O H (fun a => if (H a).isSome = true then O a else none) H' where
  old := fun e _ => k _ _ e
  lab := fun e => by simp [e]
  dom := fun e => ⟨_, k _ _ e⟩
  tup := fun e => k _ _ e
  gt := fun e => k _ _ e
  src := fun ⟨h1, h2, h3, c, l, mi, t, h4, h5, h6⟩ => ⟨by simp [h4, h1], by simp [h5, h2], h3, c, l, mi, t, k _ _ h4, k _ _ h5, h6⟩
section
variable {X : Cx}
/-- sorted(e.items()) -/
def tSI (m : Nat) (td : TE) : TE := fun σ H Q => td σ H fun x H1 => ∃ S O d its z, RepM 1 S O H1 d x ∧ itemsD d = some its ∧ sfD .srt (its.map unPr) = some z ∧ Res m S O H1 Q z
theorem items_len {its : List D} {es : Array DictEntry} {s : Shared} {H : Hp} {ds d : Addr} {L : Addr → Prop} {ep : Nat} (g : Ents s H ds L d its es ep) : ∀ x ∈ its, ∃ a b, x = .pr a b := by
  intro x hx
  obtain ⟨j, hj⟩ := List.mem_iff_getElem?.mp hx
  have : j < es.size := by rw [g.size]; exact (List.getElem?_eq_some_iff.mp hj).1
  obtain ⟨kd, vd, _, _, e, _⟩ := g.ent j es[j] (Array.getElem?_eq_getElem this)
  rw [hj] at e
  cases e
  exact ⟨_, _, rfl⟩
theorem sort_items (hc : X.calm = true) (hu : X.A.units + 64 < cLine) {m : Nat} (hm : m ≠ 3) {pins : List (Addr × Obj)} {σ : L2.St} {s : Shared} {H : Hp} {E : Value → Shared → Prop} {Q : VK} {r d : Addr} {S : Sx} {O : Lab} {its : List D} {es : Array DictEntry} {ep : Nat} {z : D}
    (I : Inv X pins σ H s) (g : Ents s H S.ds (LV O) d its es ep) (hv : s.heap.IsItemsView r d) (hs : sfD .srt (its.map unPr) = some z) (hz : Res m S O H Q z) :
    wpAny (model X.prog X.w) X.A (call (.builtin "sorted") [.ref r]) (EP X pins σ Q) E s := by
  replace hs : (if sortable (its.map unPr) = true then some (D.lst (sortD (its.map unPr))) else none) = some z := hs
  · split at hs
    · rename_i q
      cases hs
      have hfun : ∀ j : Nat, ∃ p : V × V, ∀ e : DictEntry, es[j]? = some e → ∃ kd vd, its[j]? = some (D.pr kd vd) ∧ RelV p.1 e.key ∧ RelV p.2 e.val ∧ Rep S.ds (LV O) H kd p.1 ∧ Rep S.ds (LV O) H vd p.2 := by
        intro j
        cases he : es[j]? with
        | none => exact ⟨(.non, .non), fun e h => nomatch h⟩
        | some e =>
          obtain ⟨kd, vd, kx, vx, h⟩ := g.ent j e he
          exact ⟨(kx, vx), fun e' h' => by cases h'; exact ⟨kd, vd, h⟩⟩
      obtain ⟨f, hf⟩ := Classical.axiomOfChoice hfun
      have gs := g.size
      have gl := g.short
      refine sorted_gen hu hm q (fun vs H1 => ∃ as : List Addr, vs = as.map V.ref ∧ as.length = es.size ∧ (∀ b o, H b = some o → H1 b = some o) ∧ (∀ (j : Nat) (a : Addr), as[j]? = some a → H a = none ∧ GT H1 a [(f j).1, (f j).2]))
        (fun {Q'} k => ?_) fun vs H1 ⟨as, e1, hl, kp, gt⟩ => ?_
      · refine DT.collectI (I.ok.hd hc) hv g.raw (by omega) fun h' tk as hk hlt hl hG => ?_
        have I1 : Inv X pins σ H { s with heap := h', toks := tk } := I.kept hk
        have nd : as.Nodup := List.Pairwise.imp Nat.ne_of_lt hG.rise
        obtain ⟨H2, I2, kp, gt⟩ := takeG (h' := h') (tk := tk) I as ((List.range as.length).map fun j => [(f j).1, (f j).2]) H I1 nd (by simp) fun j a vs h1 h2 => by
          obtain ⟨e, he, hob⟩ := hG.pairs j a h1
          obtain ⟨kd, vd, _, rk, rv, _, _⟩ := hf j e he
          have hj : j < as.length := (List.getElem?_eq_some_iff.mp h1).1
          have e2 : vs = [(f j).1, (f j).2] := by
            rw [List.getElem?_map, List.getElem?_range hj] at h2
            exact (Option.some.inj h2).symm
          subst e2
          have ha : s.heap.objs.size ≤ a := Nat.le_of_lt (hG.above a (List.mem_of_getElem? h1))
          exact ⟨ha, I.hok.fresh ha, _, rfl, fun H2 => ⟨hob, by show 2 ≤ sizeLine; rw [sizeLine_eq]; omega, [e.key, e.val], .cons rk (.cons rv .nil), ⟨_, hob, rfl, _, rfl⟩⟩⟩
        refine k _ (as.map V.ref) H2 _ I2 (vals_refs as) (by rw [List.length_map]; omega) ⟨as, rfl, hl, kp, fun j a h1 => ?_⟩
        have hj : j < as.length := (List.getElem?_eq_some_iff.mp h1).1
        exact ⟨I.hok.fresh (Nat.le_of_lt (hG.above a (List.mem_of_getElem? h1))), gt j a _ h1 (by rw [List.getElem?_map, List.getElem?_range hj]; rfl)⟩
      · subst e1
        have x : Ext S O H _ H1 := Ext.grow kp
        refine ⟨S, _, ?_, hz.ext x⟩
        have go : ∀ (n : Nat) (as' : List Addr) (its' : List D), as'.length = its'.length → (∀ (j : Nat) (a : Addr), as'[j]? = some a → H a = none ∧ GT H1 a [(f (n + j)).1, (f (n + j)).2]) →
            (∀ (j : Nat), j < its'.length → ∃ kd vd, its'[j]? = some (D.pr kd vd) ∧ Rep S.ds (LV O) H kd (f (n + j)).1 ∧ Rep S.ds (LV O) H vd (f (n + j)).2) → RepL S.ds (LV fun a => if (H a).isSome = true then O a else none) H1 (its'.map unPr) (as'.map V.ref) := by
          intro n as'
          induction as' generalizing n with
          | nil =>
            intro its' h1 _ _
            cases its' with
            | nil => exact .nil
            | cons x xs => simp at h1
          | cons a as' ih =>
            intro its' h1 h2 h3
            cases its' with
            | nil => simp at h1
            | cons y its' =>
              obtain ⟨kd, vd, e1, r1, r2⟩ := h3 0 (by simp)
              simp at e1
              subst e1
              obtain ⟨hn, gt0⟩ := h2 0 a rfl
              refine .cons (.tup gt0 (by show 2 ≤ sizeLine; rw [sizeLine_eq]; omega) (.cons (Rep.kp x.kpV _ _ r1) (.cons (Rep.kp x.kpV _ _ r2) .nil))) ?_
              refine ih (n + 1) its' (by simpa using h1) (fun j c hj => ?_) fun j hj => ?_
              · have := h2 (j + 1) c (by simpa using hj)
                rw [show n + 1 + j = n + (j + 1) by omega]
                exact this
              · have := h3 (j + 1) (by simpa using hj)
                rw [show n + 1 + j = n + (j + 1) by omega]
                simpa using this
        refine go 0 as its (by omega) (fun j a h => by simpa using gt j a h) fun j hj => ?_
        have hj' : j < es.size := by omega
        obtain ⟨kd, vd, b1, _, _, b2, b3⟩ := hf j es[j] (Array.getElem?_eq_getElem hj')
        exact ⟨kd, vd, b1, by simpa using b2, by simpa using b3⟩
    · cases hs
end
end DL
/-! DL, part R: the last expressions' rules. -/
namespace DL
open PySem PySem.Spec PyProof.Rows L2 PySem.W
section
variable {X : Cx}
theorem pe_sortItems {e : Expr} {td : TE} {p apos cpos pos : Pos} {m : Nat} (hc : X.calm = true) (hu : X.A.units + 64 < cLine) (hm : m ≠ 3) (hg : Gl X "sorted") (hmg : X.mg "sorted" = none) (he : PE X e td)
    (hbase : attributeBase e "items" X.env (eval e X.env) = eval e X.env) (hline : (apos.endLine == cpos.line) = true) :
    PE X (.Call (.Name "sorted" p) [.Call (.Attribute e "items" apos) [] [] cpos] [] pos) (tSI m td) := by
  refine ⟨fun pins s σ H Q I h => ?_⟩
  refine Call_ (ld_blt I hg hmg PyProof.Rows.boot_sorted (PyProof.Rows.callWith_builtin1 (args_cons ?_ rfl) rfl rfl))
  refine wpAny_Call_method (T := "dict") (id := "dict.items") hbase rfl hline PySem.F.plainAttrs_dict PySem.F.slot_dict_items PySem.F.type_dict_items (thn (he.run pins s σ H _ I h) fun u s1 ⟨x, H1, I1, rx, S, O, d, its, z, hd, hi, hs, hz⟩ => ?_)
  have fin : ∀ (a : Addr) (es : Array DictEntry) (ep : Nat), u = .ref a → RcvT s1 (.ref a) "dict" → Ents s1 H1 S.ds (LV O) a its es ep → s1.TypeIs u "dict" ∧ (∀ b, u = .ref b → ∃ ob, s1.heap.get? b = some ob ∧ ob.dict = none) ∧
      wpAny (model X.prog X.w) X.A (callWith cpos (.builtin "dict.items") [u] (backTo cpos (starEach [] X.env)) []) (fun v s2 => wpAny (model X.prog X.w) X.A (spliced (backTo pos (starEach [] X.env))) (fun vs s3 => wpAny (model X.prog X.w) X.A (call (.builtin "sorted") (v :: vs)) (EP X pins σ Q) X.xe s3) X.xe s2) X.xe s1 := by
    intro a es ep eu rc g
    subst eu
    refine ⟨rc.1, rc.2, ?_⟩
    have I2 : Inv X pins σ H1 { s1 with heap := s1.heap.push { cls := .type "dict_items", data := .fields #[.ref a] } } := I1.kept (t' := s1.toks) fun b ob q => Heap.get?_push_of_some _ q
    refine method_meetsIn PySem.F.slot_dict_items PySem.F.entry_dict_items rfl (PySem.evalArgs_none ⟨rfl, rc.1, PySem.F.args_dict_items_1 _, _, DT.meetsItems (es := es) (ep := ep) g.lo, g.raw, ?_⟩)
    refine args_nil ?_
    exact sort_items hc hu hm I2 ⟨g.lo, g.raw.push _, g.size, g.short, g.ent⟩ ⟨_, Heap.get?_push_size _ rfl, rfl, rfl⟩ hs hz
  unfold itemsD at hi
  split at hi
  · cases hi
    obtain ⟨a, vs, rfl, n, r, zl, i⟩ := (show Top S O H1 (.dK _) x from hd)
    obtain ⟨es, ep, g⟩ := ents_dK I1 r i
    exact fin a es ep rx (rcv_dK I1 r) g
  · cases hi
    obtain ⟨a, vs, rfl, n, r, zl, i⟩ := (show Top S O H1 (.dT _) x from hd)
    obtain ⟨es, ep, g⟩ := ents_dT I1 r zl i
    exact fin a es ep rx (rcv_dT I1 r) g
  · cases hi
/-- isinstance(e, T) -/
def clTy : Cl → String
  | .int => "int"
  | .bool => "bool"
  | .tuple => "tuple"
  | .list => "list"
  | .str => "str"
theorem clBoot (k : Cl) : bootBuiltins (clName k) = some (.type (clTy k)) := by
  cases k <;> decide +kernel
def rIsD (k : Cl) : List V → Hp → VK → Prop := fun vs H Q => ∃ (x : V) (S : Sx) (O : Lab) (d : D) (b : Bool), vs = [x, .ty (clTy k)] ∧ Rep S.ds (LR O) H d x ∧ isD k d = some b ∧ Q (.bl b) H
theorem call_isD (k : Cl) : CallR X (.builtin "isinstance") (rIsD k) := by
  intro pins s σ H vs us Q I r ⟨x, S, O, d, b, e, hd, hb, q⟩
  have go : ∀ (t : String), TyX X.K H x (.type t) → kitB t (clTy k) = some b → wpAny (model X.prog X.w) X.A (call (.builtin "isinstance") us) (EP X pins σ Q) X.xe s :=
    fun t ty kb => call_isi pins s σ H vs us Q I r ⟨x, .ty (clTy k), .type t, .type (clTy k), b, e, .ty _, ty, kit_ty kb, q⟩
  unfold isD at hb
  split at hb <;> cases hb
  · cases hd; exact go "int" (.base (.int _)) (by decide +kernel)
  · cases hd; exact go "bool" (.base (.bl _)) (by decide +kernel)
  · cases hd; exact go "NoneType" (.base .non) (by decide +kernel)
  · cases hd with
    | tup g _ _ => obtain ⟨o, _, g⟩ := g; exact go "tuple" (.fTuple g) (by decide +kernel)
  · cases hd with
    | lst _ g _ _ => exact go "list" (.base (.lst g)) (by decide +kernel)
  · cases hd; exact go "bool" (.base (.bl _)) (by decide +kernel)
  · cases hd; exact go "int" (.base (.int _)) (by decide +kernel)
  · cases hd; exact go "NoneType" (.base .non) (by decide +kernel)
  · cases hd with
    | tup g _ _ => obtain ⟨o, _, g⟩ := g; exact go "tuple" (.fTuple g) (by decide +kernel)
  · cases hd with
    | lst _ g _ _ => exact go "list" (.base (.lst g)) (by decide +kernel)
  · cases hd with
    | tup g _ _ => obtain ⟨o, _, g⟩ := g; exact go "tuple" (.fTuple g) (by decide +kernel)
  · cases hd; exact go "int" (.base (.int _)) (by decide +kernel)
  · cases hd; exact go "bool" (.base (.bl _)) (by decide +kernel)
  · cases hd; exact go "NoneType" (.base .non) (by decide +kernel)
  · cases hd with
    | lst _ g _ _ => exact go "list" (.base (.lst g)) (by decide +kernel)
/-- {} with tuples as keys -/
def tDNil : TE := fun _ H Q => ∀ p, H p = none → Q (.ref p) (upd H p (tabO p []))
theorem pe_dnilT {pos : Pos} : PE X (.Dict [] [] pos) tDNil := by
  refine ⟨fun pins s σ H Q I h => ?_⟩
  refine wpAny_Dict_empty ?_
  have lo : (s.heap.objs.size == sysModules) = false := by
    simp only [beq_eq_false_iff_ne]
    exact Nat.ne_of_gt I.big
  have e := Heap.get?_push_size s.heap (o := { cls := .type "dict", data := .dict #[] }) rfl
  exact ⟨.ref s.heap.objs.size, _, I.laid (t' := s.toks) (fun b u e => Heap.get?_push_of_some _ e) (Nat.le_refl _) (tab_ext ⟨lo, _, _, _, e, ⟨rfl, rfl, rfl⟩, rfl, .nil, .nil⟩), rfl, h _ I.fresh⟩
end
end DL
/-! DL, part S: what is matched, and the context. -/
namespace DL
open PySem PySem.Spec PyProof.Rows L2 PySem.W
/-! ### the form of what is matched -/
def frm : Expr → Bool
  | .Name _ _ => true
  | .Constant _ _ _ => true
  | .Tuple _ _ _ => true
  | .List _ _ => true
  | .Dict _ _ _ => true
  | .BinOp _ _ _ _ => true
  | .UnaryOp _ _ _ => true
  | .BoolOp _ _ _ => true
  | .IfExp _ _ _ _ => true
  | .Compare _ _ _ _ => true
  | .Subscript _ _ _ => true
  | .Call (.Name _ _) (_ :: _) _ _ => true
  | .Call (.Attribute _ _ _) _ _ _ => true
  | .ListComp _ _ _ _ => true
  | _ => false
theorem mE_frm {c : SC} {ir : Ex} {e : Expr} (h : mE c ir e = true) : frm e = true := by
  cases ir with
  | v i => obtain ⟨_, _, rfl, _⟩ := iv_v h; rfl
  | non => obtain ⟨_, _, rfl⟩ := iv_non h; rfl
  | bl b => obtain ⟨_, _, rfl⟩ := iv_bl h; rfl
  | int b => obtain ⟨_, _, rfl⟩ := iv_int h; rfl
  | str b => obtain ⟨_, _, rfl⟩ := iv_str h; rfl
  | tup es => obtain ⟨_, _, _, rfl, _⟩ := iv_tup h; rfl
  | lst es => obtain ⟨_, _, rfl, _⟩ := iv_lst h; rfl
  | dnil t => obtain ⟨_, rfl⟩ := iv_dnil h; rfl
  | bin o a b => obtain ⟨_, _, _, rfl, _⟩ := iv_bin h; rfl
  | neg a => obtain ⟨_, _, rfl, _⟩ := iv_neg h; rfl
  | nt a => obtain ⟨_, _, rfl, _⟩ := iv_nt h; rfl
  | and es => obtain ⟨_, _, rfl, _⟩ := iv_and h; rfl
  | or es => obtain ⟨_, _, rfl, _⟩ := iv_or h; rfl
  | ite a b d => obtain ⟨_, _, _, _, rfl, _⟩ := iv_ite h; rfl
  | cmp o a b => obtain ⟨_, _, _, rfl, _⟩ := iv_cmp h; rfl
  | cmp2 o p a b d => obtain ⟨_, _, _, _, rfl, _⟩ := iv_cmp2 h; rfl
  | ix a i => obtain ⟨_, _, _, rfl, _⟩ := iv_ix h; rfl
  | sl a lo hi => obtain ⟨_, _, _, _, _, rfl, _⟩ := iv_sl h; rfl
  | rev a => obtain ⟨_, _, _, _, _, _, rfl, _⟩ := iv_rev h; rfl
  | call f es =>
    obtain ⟨_, es', _, rfl, _, _, _, h1, _⟩ := iv_call h
    cases es' with
    | nil => exact absurd rfl h1
    | cons x xs => rfl
  | blt f es =>
    obtain ⟨_, es', _, rfl, _, _, h1, _⟩ := iv_blt h
    cases es' with
    | nil => exact absurd rfl h1
    | cons x xs => rfl
  | seq f it => obtain ⟨_, _, _, rfl, _⟩ := iv_seq h; rfl
  | mth m o es => obtain ⟨_, _, _, _, rfl, _⟩ := iv_mth h; rfl
  | isin a k => obtain ⟨_, _, _, _, rfl, _⟩ := iv_isin h; rfl
  | sg i k => obtain ⟨_, _, _, _, _, rfl, _⟩ := iv_sg h; rfl
  | comp p it ifs x own => obtain ⟨_, _, _, _, _, _, rfl, _⟩ := iv_comp h; rfl
section
variable {e : Expr} {env : Env}
theorem frm_star (h : frm e = true) : isStar e = false := by cases e <;> first | rfl | cases h
theorem star_cons {es : List Expr} (h : isStar e = false) : starEach (e :: es) env = (false, eval e env) :: starEach es env := by
  cases e <;> first | rfl | cases h
theorem star_any {pos : Pos} : ∀ {es : List Expr}, es.any isStar = false → (backTo pos (starEach es env)).any (·.1) = false
  | [], _ => rfl
  | e :: es, h => by
    rw [List.any_cons, Bool.or_eq_false_iff] at h
    rw [star_cons h.1]
    show (false || (backTo pos (starEach es env)).any (·.1)) = false
    rw [star_any h.2]
    rfl
theorem star_all {pos : Pos} : ∀ {es : List Expr}, es.any isStar = false → (backTo pos (starEach es env)).all (fun x => !x.1) = true
  | [], _ => rfl
  | e :: es, h => by
    rw [List.any_cons, Bool.or_eq_false_iff] at h
    rw [star_cons h.1]
    show (true && (backTo pos (starEach es env)).all (fun x => !x.1)) = true
    rw [star_all h.2]
    rfl
theorem frm_base {a : Str} {w : Sem Value} (h : frm e = true) : attributeBase e a env w = w := by
  cases e <;> first | rfl | (cases h; done) | skip
  rename_i f args kw pos
  cases f <;> first | rfl | skip
  cases args with
  | nil => cases h
  | cons x xs => rfl
theorem frm_ix (h : frm e = true) : PlainIx e := by
  intro o i
  cases e <;> first | rfl | cases h
theorem frm_marks {op : CmpOp} (h : frm e = true) : behindInMarks op e = false := by
  cases e <;> first | rfl | cases h
theorem frm_fold (h : frm e = true) : ∀ x, foldedSetIterable e env x = pure x := by
  intro x
  cases e <;> first | rfl | cases h
/-- a test by its value -/
def isDef : Expr → Bool
  | .UnaryOp .Not _ _ => false
  | .BoolOp _ _ _ => false
  | .IfExp _ _ _ _ => false
  | .Compare _ _ _ _ => false
  | _ => true
theorem def_true (h : isDef e = true) : ∀ whole, isTrue e env whole = (do let v ← whole; standAt e.pos; holding [v] (truthy v)) := by
  intro w
  cases e <;> first | rfl | (cases h; done) | skip
  rename_i op x pos
  cases op <;> first | rfl | cases h
end

/-! ### the context -/
theorem _root_.L2.PE.weak {X : Cx} {e : Expr} {t t' : TE} (h : PE X e t) (f : ∀ σ H Q, t' σ H Q → t σ H Q) : PE X e t' := ⟨fun pins s σ H Q I hw => h.run pins s σ H Q I (f _ _ _ hw)⟩
theorem _root_.L2.PT.weak {X : Cx} {e : Expr} {t t' : TT} (h : PT X e t) (f : ∀ σ H Q, t' σ H Q → t σ H Q) : PT X e t' := ⟨fun pins s σ H Q I hw => h.run pins s σ H Q I (f _ _ _ hw)⟩
theorem _root_.L2.PA.weak {X : Cx} {e : List Expr} {t t' : TA} (h : PA X e t) (f : ∀ σ H Q, t' σ H Q → t σ H Q) : PA X e t' := ⟨fun pos pins s σ H Q I hw => h.run pos pins s σ H Q I (f _ _ _ hw)⟩
theorem _root_.L2.PW.weak {X : Cx} {e : Expr} {t t' : TT} (h : PW X e t) (f : ∀ σ H Q, t' σ H Q → t σ H Q) : PW X e t' := ⟨fun w pins s σ H Q I hw => h.run w pins s σ H Q I (f _ _ _ hw)⟩
theorem _root_.L2.PO.weak {X : Cx} {e : Option Expr} {t t' : TO} (h : PO X e t) (f : ∀ σ H Q, t' σ H Q → t σ H Q) : PO X e t' := ⟨fun pins s σ H Q I hw => h.run pins s σ H Q I (f _ _ _ hw)⟩
theorem _root_.L2.PI.weak {X : Cx} {tg e : Expr} {t t' : TI} (h : PI X tg e t) (f : ∀ σ H Q, t' σ H Q → t σ H Q) : PI X tg e t' := ⟨fun pins s σ H Q I hw => h.run pins s σ H Q I (f _ _ _ hw)⟩
theorem _root_.L2.PS.weak {X : Cx} {e : Stmt} {t t' : TS} (h : PS X e t) (f : ∀ D σ H, t' D σ H → t D σ H) : PS X e t' := ⟨fun pins s σ H Q I hw => h.run pins s σ H Q I (f _ _ _ hw)⟩
theorem _root_.L2.PSs.weak {X : Cx} {e : List Stmt} {t t' : TS} (h : PSs X e t) (f : ∀ D σ H, t' D σ H → t D σ H) : PSs X e t' := ⟨fun pins s σ H Q I hw => h.run pins s σ H Q I (f _ _ _ hw)⟩

/-- the promise of a function of the text -/
def spOf (n : Nat) (b : Bool) (g : List D → (D → Prop) → Prop) : Sp := fun vs H Q _ => vs.length = n ∧ ∃ S O ds, SrcAt S O H ∧ RepL S.ds (LV O) H ds vs ∧ g ds (Res (if b = true then 2 else 0) S O H Q)
/-- one function -/
structure FnIs (P : Program) (w : World) (K : PySem.W.Frag) (mg : Str → Option Value) (base : Heap) (k : Nat) (f : Str) (b : Bool) (g : List D → (D → Prop) → Prop) : Prop where
  ex : ∃ (fa : Addr) (fd : FuncData) (ps : List Str), mg f = some (.ref fa) ∧ PySem.W.keepIn K (.ref fa) = true ∧ Binds K fd ps [] ∧ FnOk P w K mg base CX0 k fa fd ps (spOf ps.length b g) ∧ ∀ ds Q, g ds Q → ds.length = ps.length
/-- the names of built-ins that are used -/
def bltNames : List Str := ["len", "sum", "max", "min", "abs", "int", "all", "any", "tuple", "list", "sorted", "dict", "range", "enumerate", "zip", "isinstance", "bool", "str"]
structure WOk (X : Cx) (Γ : Gam) (F : Str → Bool) (k : Nat) (c : SC) : Prop where
  nd : X.N.Nodup
  hN : X.N = c.N
  hsc : X.env.scope = c.sc
  hfn : X.fn = c.fn
  calm : X.calm = true
  room : Room k X.A
  po : PassesOwn (model X.prog X.w) X.A X.env X.xe
  blt : ∀ x ∈ bltNames, X.mg x = none
  fns : ∀ f b g, Γ f = some (b, g) → FnIs X.prog X.w X.K X.mg X.base k f b g
  fresh : ∀ f b g, Γ f = some (b, g) → F f = true → b = true
  mono : GMono Γ
section
variable {X : Cx} {Γ : Gam} {F : Str → Bool} {k : Nat} {c : SC} (w : WOk X Γ F k c)
include w
theorem WOk.hu : X.A.units + 64 < cLine := w.room.units
theorem WOk.gl {x : Str} (h : glB c.sc x = true) : Gl X x := by
  show X.env.scope.names.lookup x = _
  rw [w.hsc]
  unfold glB at h
  split at h
  · assumption
  · cases h
theorem WOk.vis {x : Str} (h : visB c.sc x = true) : Vis X.env.scope x := by
  unfold Vis
  rw [w.hsc]
  unfold visB at h
  split at h
  · rename_i e; exact .inl e
  · rename_i e; exact .inr (.inl e)
  · rename_i e; exact .inr (.inr e)
  · cases h
theorem WOk.name {i : Nat} {x : Str} (h : varB c i x = true) : X.N[i]? = some x ∧ Vis X.env.scope x ∧ (x == ("__debug__" : Str)) = false ∧ (x == ("__classdict__" : Str)) = false := by
  unfold varB nmOk at h
  simp only [Bool.and_eq_true, decide_eq_true_eq, Bool.not_eq_true'] at h
  obtain ⟨⟨h1, h2⟩, ⟨h3, h4⟩, _⟩ := h
  rw [w.hN]
  exact ⟨h1, w.vis h2, h3, h4⟩
theorem WOk.sto {i : Nat} {x : Str} (h : stoB c i x = true) : X.N[i]? = some x ∧ L2.Loc X.env.scope x ∧ (X.fn x = true ∨ X.env.scope.names.lookup x = some .local) := by
  unfold stoB at h
  rw [Bool.and_eq_true, decide_eq_true_eq] at h
  obtain ⟨h1, h2⟩ := h
  unfold L2.Loc
  rw [w.hN, w.hsc, w.hfn]
  split at h2
  · rename_i e; exact ⟨h1, .inl e, .inr e⟩
  · rename_i e; exact ⟨h1, .inr e, .inl h2⟩
  · cases h2
end
end DL
namespace DL
open PySem PySem.Spec PyProof.Rows L2 PySem.W
theorem WOk.blk {X : Cx} {Γ : Gam} {F : Str → Bool} {k : Nat} {c : SC} (w : WOk X Γ F k c) (s : Shared) (H : Hp) (scope : Scope) (cl : List (Str × Addr)) (C : Addr) (fp : List Addr) : WOk (X.blk s H scope (compEnvC scope cl C X.env) fp) Γ F k (subSC c scope) where
  nd := w.nd
  hN := w.hN
  hsc := by
    show relabel scope X.env = relS scope c.sc
    rw [← w.hsc]
    rfl
  hfn := rfl
  calm := w.calm
  room := w.room
  po := fun _ _ h => h.elim
  blt := w.blt
  fns := w.fns
  fresh := w.fresh
  mono := w.mono
end DL
/-! DL, part U: what is walked, as data. -/
namespace DL
open PySem PySem.Spec PyProof.Rows L2 PySem.W
/-- the later states: behind statements (k = 0), behind expressions -/
def Pk (k : Nat) (S : Sx) (O : Lab) (H : Hp) : Lab → Hp → Prop := fun O' H' => if k = 0 then Step S O H O' H' else Ext S O H O' H'
section
variable {k : Nat} {S : Sx} {O O' : Lab} {H H' : Hp}
theorem Pk.kpV (p : Pk k S O H O' H') : Kp (LV O) (LV O') H H' := by
  unfold Pk at p
  split at p
  · exact p.kpV
  · exact p.kpV
theorem Pk.gt (p : Pk k S O H O' H') {a : Addr} {vs : List V} (h : GT H a vs) : GT H' a vs := p.kpV.GT h
/-- a list that is walked stays -/
theorem Pk.lst (p : Pk k S O H O' H') {a : Addr} {o : HO} (h : H a = some o) (n : O a ≠ some 0) (z : k = 0 → O a = none) : H' a = some o := by
  unfold Pk at p
  split at p
  · rename_i q; exact p.old h (.inl (z q))
  · exact p.old h n
/-- J walks ds while P stands -/
structure Wd (S : Sx) (P : Lab → Hp → Prop) (J : L2.It) (ds : List D) : Prop where
  ex : ∃ (G : Hp → Prop) (Y : Nat → Hp → V → Hp → Prop), Walk J ds.length G Y ∧ (∀ O' H', P O' H' → G H') ∧ ∀ (i : Nat) (O' : Lab) (H' : Hp) (x : V) (H'' : Hp) (d : D), P O' H' → ds[i]? = some d → Y i H' x H'' → ∃ O'', Ext S O' H' O'' H'' ∧ Rep S.ds (LV O'') H'' d x
  short : ds.length ≤ sizeLine
variable {K : PySem.W.Frag} {a b : Addr} {xs ys : List D} {vs ws : List V}
theorem get_map {α β : Type} {f : α → β} {l : List α} {i : Nat} {y : β} (h : (l.map f)[i]? = some y) : ∃ x, l[i]? = some x ∧ f x = y := by
  rw [List.getElem?_map] at h
  exact Option.map_eq_some_iff.mp h
theorem wd_lst (h : H a = some (.lst vs)) (n : O a ≠ some 0) (z : k = 0 → O a = none) (hz : vs.length ≤ sizeLine) (r : RepL S.ds (LV O) H xs vs) : Wd S (Pk k S O H) (Itl K a) xs := by
  have e := r.length
  refine ⟨⟨_, _, by rw [e]; exact walk_list, fun O' H' p => SqL.of (p.lst h n z), fun i O' H' x H'' d p hd y => ?_⟩, by omega⟩
  obtain ⟨rfl, hx⟩ := y
  obtain ⟨v, h1, h2⟩ := r.get hd
  rw [h1] at hx
  cases hx
  exact ⟨O', Ext.refl, Rep.kp p.kpV _ _ h2⟩
theorem wd_tup (h : GT H a vs) (hz : vs.length ≤ sizeLine) (r : RepL S.ds (LV O) H xs vs) : Wd S (Pk k S O H) (Itt K a) xs := by
  have e := r.length
  refine ⟨⟨_, _, by rw [e]; exact walk_tup, fun O' H' p => (p.gt h).sq, fun i O' H' x H'' d p hd y => ?_⟩, by omega⟩
  obtain ⟨rfl, hx⟩ := y
  obtain ⟨v, h1, h2⟩ := r.get hd
  rw [h1] at hx
  cases hx
  exact ⟨O', Ext.refl, Rep.kp p.kpV _ _ h2⟩
/-- a new pair -/
theorem pair_new {T : Addr} {d e : D} {x y : V} (hT : H T = none) (r1 : Rep S.ds (LV O) H d x) (r2 : Rep S.ds (LV O) H e y) : ∃ O'', Ext S O H O'' (upd H T (.tup [x, y])) ∧ Rep S.ds (LV O'') (upd H T (.tup [x, y])) (.pr d e) (.ref T) := by
  have xx : Ext S O H (relab O T none) (upd H T (.tup [x, y])) := Ext.new hT
  exact ⟨_, xx, .pr upd_same (Rep.kp xx.kpV _ _ r1) (Rep.kp xx.kpV _ _ r2)⟩
theorem enum_get {i : Nat} {d : D} (h : (enumD xs)[i]? = some d) : ∃ x, xs[i]? = some x ∧ d = .pr (.int (i : Int)) x := by
  unfold enumD at h
  obtain ⟨p, h1, rfl⟩ := get_map h
  rw [List.getElem?_zipIdx] at h1
  obtain ⟨x, h2, rfl⟩ := Option.map_eq_some_iff.mp h1
  exact ⟨x, h2, by simp⟩
theorem enum_len : (enumD xs).length = xs.length := by unfold enumD; rw [List.length_map, List.length_zipIdx]
theorem wd_enumL (h : H a = some (.lst vs)) (n : O a ≠ some 0) (z : k = 0 → O a = none) (hz : vs.length ≤ sizeLine) (r : RepL S.ds (LV O) H xs vs) : Wd S (Pk k S O H) (Ite K a) (enumD xs) := by
  have e := r.length
  refine ⟨⟨_, _, by rw [enum_len, e]; exact walk_enum, fun O' H' p => SqL.of (p.lst h n z), fun i O' H' x H'' d p hd y => ?_⟩, by rw [enum_len]; omega⟩
  obtain ⟨T, x1, y1, rfl, hT, rfl, h1, h2⟩ := y
  dsimp only at h1 h2
  obtain ⟨x2, g1, rfl⟩ := enum_get hd
  obtain ⟨v, g2, g3⟩ := r.get g1
  rw [g2] at h2
  cases h2
  cases h1
  exact pair_new hT (.int _) (Rep.kp p.kpV _ _ g3)
theorem wd_enumT (h : GT H a vs) (hz : vs.length ≤ sizeLine) (r : RepL S.ds (LV O) H xs vs) : Wd S (Pk k S O H) (IteT K a) (enumD xs) := by
  have e := r.length
  refine ⟨⟨_, _, by rw [enum_len, e]; exact walk_enumT, fun O' H' p => (p.gt h).sq, fun i O' H' x H'' d p hd y => ?_⟩, by rw [enum_len]; omega⟩
  obtain ⟨T, x1, y1, rfl, hT, rfl, h1, h2⟩ := y
  dsimp only at h1 h2
  obtain ⟨x2, g1, rfl⟩ := enum_get hd
  obtain ⟨v, g2, g3⟩ := r.get g1
  rw [g2] at h2
  cases h2
  cases h1
  exact pair_new hT (.int _) (Rep.kp p.kpV _ _ g3)
theorem zip_get {i : Nat} {d : D} (h : ((xs.zip ys).map fun p => D.pr p.1 p.2)[i]? = some d) : ∃ x y, xs[i]? = some x ∧ ys[i]? = some y ∧ d = .pr x y := by
  obtain ⟨p, h1, rfl⟩ := get_map h
  obtain ⟨h2, h3⟩ := List.getElem?_zip_eq_some.mp h1
  exact ⟨_, _, h2, h3, rfl⟩
theorem wd_zipL (h : H a = some (.lst vs)) (n : O a ≠ some 0) (z : k = 0 → O a = none) (hz : vs.length ≤ sizeLine) (r : RepL S.ds (LV O) H xs vs)
    (h' : H b = some (.lst ws)) (n' : O b ≠ some 0) (z' : k = 0 → O b = none) (hz' : ws.length ≤ sizeLine) (r' : RepL S.ds (LV O) H ys ws) : Wd S (Pk k S O H) (Itz K a b) ((xs.zip ys).map fun p => .pr p.1 p.2) := by
  have e := r.length
  have e' := r'.length
  refine ⟨⟨_, _, walk_zip (xs := vs) (ys := ws) (by simp; omega), fun O' H' p => ⟨SqL.of (p.lst h n z), SqL.of (p.lst h' n' z')⟩, fun i O' H' x H'' d p hd y => ?_⟩, by simp; omega⟩
  obtain ⟨T, x1, y1, rfl, hT, rfl, h1, h2⟩ := y
  dsimp only at h1 h2
  obtain ⟨d1, d2, g1, g2, rfl⟩ := zip_get hd
  obtain ⟨v1, q1, q2⟩ := r.get g1
  obtain ⟨v2, q3, q4⟩ := r'.get g2
  rw [q1] at h1; rw [q3] at h2
  cases h1; cases h2
  exact pair_new hT (Rep.kp p.kpV _ _ q2) (Rep.kp p.kpV _ _ q4)
theorem wd_zipT (h : GT H a vs) (hz : vs.length ≤ sizeLine) (r : RepL S.ds (LV O) H xs vs) (h' : GT H b ws) (hz' : ws.length ≤ sizeLine) (r' : RepL S.ds (LV O) H ys ws) : Wd S (Pk k S O H) (RZ.ItzT K a b) ((xs.zip ys).map fun p => .pr p.1 p.2) := by
  have e := r.length
  have e' := r'.length
  refine ⟨⟨_, _, walk_zipT (xs := vs) (ys := ws) (by simp; omega), fun O' H' p => ⟨(p.gt h).sq, (p.gt h').sq⟩, fun i O' H' x H'' d p hd y => ?_⟩, by simp; omega⟩
  obtain ⟨T, x1, y1, rfl, hT, rfl, h1, h2⟩ := y
  dsimp only at h1 h2
  obtain ⟨d1, d2, g1, g2, rfl⟩ := zip_get hd
  obtain ⟨v1, q1, q2⟩ := r.get g1
  obtain ⟨v2, q3, q4⟩ := r'.get g2
  rw [q1] at h1; rw [q3] at h2
  cases h1; cases h2
  exact pair_new hT (Rep.kp p.kpV _ _ q2) (Rep.kp p.kpV _ _ q4)
theorem wd_zipB {t u : Bool} (s1 : ∀ O' H', Pk k S O H O' H' → SqB t K H' a vs) (s2 : ∀ O' H', Pk k S O H O' H' → SqB u K H' b ws) (hz : vs.length ≤ sizeLine) (r : RepL S.ds (LV O) H xs vs) (hz' : ws.length ≤ sizeLine) (r' : RepL S.ds (LV O) H ys ws) : Wd S (Pk k S O H) (ItzB t u K a b) ((xs.zip ys).map fun p => .pr p.1 p.2) := by
  have e := r.length
  have e' := r'.length
  refine ⟨⟨_, _, walk_zipB (xs := vs) (ys := ws) (by simp; omega), fun O' H' p => ⟨s1 O' H' p, s2 O' H' p⟩, fun i O' H' x H'' d p hd y => ?_⟩, by simp; omega⟩
  obtain ⟨T, x1, y1, rfl, hT, rfl, h1, h2⟩ := y
  dsimp only at h1 h2
  obtain ⟨d1, d2, g1, g2, rfl⟩ := zip_get hd
  obtain ⟨v1, q1, q2⟩ := r.get g1
  obtain ⟨v2, q3, q4⟩ := r'.get g2
  rw [q1] at h1; rw [q3] at h2
  cases h1; cases h2
  exact pair_new hT (Rep.kp p.kpV _ _ q2) (Rep.kp p.kpV _ _ q4)
theorem range_get {lo c : Int} {n i : Nat} {d : D} (h : (rangeD lo c n)[i]? = some d) : d = .int (lo + (i : Int) * c) := by
  unfold rangeD at h
  obtain ⟨j, h1, rfl⟩ := get_map h
  have : j = i := by
    have hi : i < n := by have := (List.getElem?_eq_some_iff.mp h1).1; simpa using this
    rw [List.getElem?_range hi] at h1
    exact (Option.some.inj h1).symm
  rw [this]
theorem range_len (lo c : Int) (n : Nat) : (rangeD lo c n).length = n := by unfold rangeD; rw [List.length_map, List.length_range]
theorem wd_range {lo c : Int} {n : Nat} (hn : n ≤ sizeLine) : Wd S (Pk k S O H) (Itc lo c n) (rangeD lo c n) := by
  refine ⟨⟨_, _, by rw [range_len]; exact walk_rangeC, fun _ _ _ => trivial, fun i O' H' x H'' d p hd y => ?_⟩, by rw [range_len]; exact hn⟩
  obtain ⟨rfl, rfl⟩ := y
  rw [range_get hd]
  exact ⟨O', Ext.refl, .int _⟩
theorem wd_itemsK {o : Obj} {vs : List (Key × V)} {kvs : List (Key × D)} (h : H a = some (.frz o (.dK vs))) (n : O a ≠ some 0) (z : k = 0 → O a = none) (hz : vs.length ≤ sizeLine) (r : RepK S.ds (LV O) H kvs vs) : Wd S (Pk k S O H) (Iti a o vs) (kvs.map fun kv => .pr (keyD kv.1) kv.2) := by
  have e := r.length
  have go : ∀ {kvs : List (Key × D)} {vs : List (Key × V)}, RepK S.ds (LV O) H kvs vs → ∀ (i : Nat) (q : Key × D), kvs[i]? = some q → ∃ v, vs[i]? = some (q.1, v) ∧ Rep S.ds (LV O) H q.2 v := by
    intro kvs
    induction kvs with
    | nil => intro vs r i q hq; simp at hq
    | cons x kvs ih =>
      intro vs r i q hq
      cases r with
      | cons r1 r2 =>
      cases i with
      | zero => simp at hq; subst hq; exact ⟨_, rfl, r1⟩
      | succ i =>
        obtain ⟨v, h1, h2⟩ := ih r2 i q (by simpa using hq)
        exact ⟨v, by simpa using h1, h2⟩
  refine ⟨⟨_, _, by rw [List.length_map, e]; exact walk_items, fun O' H' p => p.lst h n z, fun i O' H' x H'' d p hd y => ?_⟩, by rw [List.length_map]; omega⟩
  obtain ⟨T, x1, y1, rfl, hT, rfl, h1, h2⟩ := y
  dsimp only at h1 h2
  obtain ⟨q, g1, rfl⟩ := get_map hd
  obtain ⟨v, g2, g3⟩ := go r i q g1
  rw [g2] at h1 h2
  cases h1; cases h2
  refine pair_new hT ?_ (Rep.kp p.kpV _ _ g3)
  cases q.1
  · exact .int _
  · exact .str _
theorem wd_keysK {o : Obj} {vs : List (Key × V)} {kvs : List (Key × D)} (h : H a = some (.frz o (.dK vs))) (n : O a ≠ some 0) (z : k = 0 → O a = none) (hz : vs.length ≤ sizeLine) (r : RepK S.ds (LV O) H kvs vs) : Wd S (Pk k S O H) (Itk a o vs) (keysK kvs) := by
  have e := r.length
  have go : ∀ {kvs : List (Key × D)} {vs : List (Key × V)}, RepK S.ds (LV O) H kvs vs → kvs.map (·.1) = vs.map (·.1) := by
    intro kvs
    induction kvs with
    | nil => intro vs r; cases r; rfl
    | cons x kvs ih =>
      intro vs r
      cases r with
      | cons r1 r2 => rw [List.map_cons, List.map_cons, ih r2]
  refine ⟨⟨_, _, by unfold keysK; rw [List.length_map, e]; exact walk_keys, fun O' H' p => p.lst h n z, fun i O' H' x H'' d p hd y => ?_⟩, by unfold keysK; rw [List.length_map]; omega⟩
  obtain ⟨rfl, q, v, h1, rfl⟩ := y
  unfold keysK at hd
  obtain ⟨q', g1, rfl⟩ := get_map hd
  have e1 : (kvs.map (·.1))[i]? = some q'.1 := by rw [List.getElem?_map, g1]; rfl
  rw [go r, List.getElem?_map, h1] at e1
  obtain rfl : q = q'.1 := by simpa using e1
  refine ⟨O', Ext.refl, ?_⟩
  cases q'.1
  · exact .int _
  · exact .str _
theorem wd_keysN {o : Obj} {vs : List (NestedKey × Addr × V)} {kvs : List (NestedKey × D)} (h : H a = some (.frz o (tabO a vs))) (n : O a ≠ some 0) (z : k = 0 → O a = none) (hz : vs.length ≤ sizeLine) (r : RepT S.ds (LV O) H kvs vs) : Wd S (Pk k S O H) (ItkN a o vs) (keysT kvs) := by
  have e := r.length
  have go : ∀ {kvs : List (NestedKey × D)} {vs : List (NestedKey × Addr × V)}, RepT S.ds (LV O) H kvs vs → ∀ (i : Nat) (q : NestedKey × D), kvs[i]? = some q → ∃ b v, vs[i]? = some (q.1, b, v) ∧ Rep S.ds (LV O) H (ofNK q.1) (.ref b) := by
    intro kvs
    induction kvs with
    | nil => intro vs r i q hq; simp at hq
    | cons x kvs ih =>
      intro vs r i q hq
      cases r with
      | cons r0 r1 r2 =>
      cases i with
      | zero => simp at hq; subst hq; exact ⟨_, _, rfl, r0⟩
      | succ i =>
        obtain ⟨b, v, h1, h2⟩ := ih r2 i q (by simpa using hq)
        exact ⟨b, v, by simpa using h1, h2⟩
  refine ⟨⟨_, _, by unfold keysT; rw [List.length_map, e]; exact walk_keysN, fun O' H' p => p.lst h n z, fun i O' H' x H'' d p hd y => ?_⟩, by unfold keysT; rw [List.length_map]; omega⟩
  obtain ⟨rfl, q, h1, rfl⟩ := y
  unfold keysT at hd
  obtain ⟨q', g1, rfl⟩ := get_map hd
  obtain ⟨b, v, g2, g3⟩ := go r i q' g1
  rw [g2] at h1
  cases h1
  exact ⟨O', Ext.refl, Rep.kp p.kpV _ _ g3⟩
theorem wd_itemsT {o : Obj} {vs : List (NestedKey × Addr × V)} {kvs : List (NestedKey × D)} (h : H a = some (.frz o (tabO a vs))) (n : O a ≠ some 0) (z : k = 0 → O a = none) (hz : vs.length ≤ sizeLine) (r : RepT S.ds (LV O) H kvs vs) : Wd S (Pk k S O H) (ItiT a o vs) (kvs.map fun kv => .pr (ofNK kv.1) kv.2) := by
  have e := r.length
  have go : ∀ {kvs : List (NestedKey × D)} {vs : List (NestedKey × Addr × V)}, RepT S.ds (LV O) H kvs vs → ∀ (i : Nat) (q : NestedKey × D), kvs[i]? = some q → ∃ b v, vs[i]? = some (q.1, b, v) ∧ Rep S.ds (LV O) H (ofNK q.1) (.ref b) ∧ Rep S.ds (LV O) H q.2 v := by
    intro kvs
    induction kvs with
    | nil => intro vs r i q hq; simp at hq
    | cons x kvs ih =>
      intro vs r i q hq
      cases r with
      | cons r0 r1 r2 =>
      cases i with
      | zero => simp at hq; subst hq; exact ⟨_, _, rfl, r0, r1⟩
      | succ i =>
        obtain ⟨b, v, h1, h2⟩ := ih r2 i q (by simpa using hq)
        exact ⟨b, v, by simpa using h1, h2⟩
  refine ⟨⟨_, _, by rw [List.length_map, e]; exact walk_itemsT, fun O' H' p => p.lst h n z, fun i O' H' x H'' d p hd y => ?_⟩, by rw [List.length_map]; omega⟩
  obtain ⟨T, x1, y1, rfl, hT, rfl, h1, h2⟩ := y
  dsimp only at h1 h2
  obtain ⟨q, g1, rfl⟩ := get_map hd
  obtain ⟨b, v, g2, g3, g4⟩ := go r i q g1
  rw [g2] at h1 h2
  cases h1; cases h2
  exact pair_new hT (Rep.kp p.kpV _ _ g3) (Rep.kp p.kpV _ _ g4)
end
end DL
/-! DL, part V: patterns. -/
namespace DL
open PySem PySem.Spec PyProof.Rows L2 PySem.W
section
variable {prog : Program} {w : World} {A : Around} {E : Value → Shared → Prop}
theorem drawL {it l : Addr} {its : Array Value} (hne : l ≠ it) : ∀ (n i : Nat) (s : Shared) (Q : List Value → Shared → Prop), s.heap.IsListIter it l i → s.heap.IsList l its → i + n ≤ its.size →
    (∀ h', h'.IsListIter it l (i + n) → Heap.SameBut it s.heap h' → Q ((its.toList.drop i).take n) { s with heap := h' }) → wpAny (model prog w) A (draw (.ref it) n) Q E s
  | 0, i, s, Q, hit, _, _, hQ => by
    show wpAny _ _ (pure []) Q E s
    refine wpAny_pure ?_
    have := hQ s.heap hit (Heap.SameBut.refl ..)
    simpa using this
  | n + 1, i, s, Q, hit, hl, hle, hQ => by
    have hlt : i < its.size := by omega
    show wpAny _ _ (pyNext (.ref it) >>= _) Q E s
    refine wpAny_bind (wpAny_pyNext_list_item hit hl (x := its[i]) (by simp [hlt]) fun h1 hit1 sb1 => ?_)
    refine wpAny_bind (wpAny_holding (drawL hne n (i + 1) _ _ hit1 (hl.extBut sb1.extBut hne) (by omega) fun h2 hit2 sb2 => wpAny_pure ?_))
    have e : (its.toList.drop i).take (n + 1) = its[i] :: (its.toList.drop (i + 1)).take n := by
      rw [List.drop_eq_getElem_cons (by simpa using hlt), List.take_succ_cons]
      simp
    rw [← e]
    exact hQ h2 (by rw [show i + (n + 1) = i + 1 + n by omega]; exact hit2) (sb1.trans sb2)
theorem unpackItemsL {s : Shared} {l : Addr} {its : Array Value} {Q : List Value → Shared → Prop} (hh : A.handled = none) (hl : s.heap.IsList l its)
    (hQ : ∀ h', (∀ b o, b ≠ s.heap.objs.size → s.heap.get? b = some o → h'.get? b = some o) → Q its.toList { s with heap := h' }) : wpAny (model prog w) A (unpackItems (.ref l) its.size none) Q E s := by
  have hne : l ≠ s.heap.objs.size := by obtain ⟨o, ho, _⟩ := hl; exact Nat.ne_of_lt (Heap.lt_size ho)
  unfold unpackItems
  refine wpAny_bind ?_
  unfold notIterableAtAll
  refine wpAny_bind (wpAny_specialOf hl.typeIs PySem.slot_list_iter.lookup (wpAny_pure ?_))
  simp only [Bool.false_eq_true, if_false]
  refine wpAny_bind (wpAny_holding (wpAny_pyIter_list hl ?_))
  refine wpAny_bind (wpAny_holding (drawL hne its.size 0 _ _ ⟨_, Heap.get?_push_size _ rfl, rfl, rfl⟩ (hl.push _) (by omega) fun h1 hit1 sb1 => ?_))
  have e : List.take its.size (List.drop 0 its.toList) = its.toList := by
    rw [List.drop_zero]
    exact List.take_of_length_le (by simp)
  rw [e, if_neg (by simp)]
  have hl1 : h1.IsList l its := (hl.push _).extBut sb1.extBut hne
  refine wpAny_bind (wpAny_holding (wpAny_pyNext_list_end hh hit1 hl1 (by simp) fun h2 eb => ?_))
  simp only [Option.isSome_none, Bool.false_eq_true, if_false]
  exact wpAny_pure (hQ h2 fun b o hb q => eb b o hb (sb1.extBut b o hb (Heap.get?_push_of_some _ q)))
end
/-- (a, b, ..) = a tuple or a list of that length -/
def gSeq (K : PySem.W.Frag) (n : Nat) (t : TGs) : TG := fun v σ H Q => ∃ a xs, v = .ref a ∧ (SqT K H a xs ∨ SqL K H a xs) ∧ xs.length = n ∧ t xs σ H Q
theorem pg_seq {X : Cx} {es : List Expr} {k : Nat} {pos : Pos} {t : TGs} {n : Nat} (hc : X.calm = true) (h : PGs X es t)
    (hn : (assignEach es X.env).length = n) (hst : (assignEach es X.env).findIdx? (·.1) = none) : PG X (.Tuple es k pos) (gSeq X.K n t) := by
  refine ⟨fun pins s σ H v u Q I r ⟨a, xs, e1, hq, hl, hw⟩ => ?_⟩
  rcases hq with hq | hq
  · exact (pg_tup (k := k) (pos := pos) hc h hn hst).run pins s σ H v u Q I r ⟨a, xs, e1, hq, hl, hw⟩
  · subst e1
    cases r
    obtain ⟨its, rv, p, hz⟩ := I.list hq
    have hr := rv.length
    rw [assign_Tuple]
    refine wpAny_bind (wpAny_standAt ?_)
    unfold unpack
    rw [show (assignEach es X.env).length = its.toArray.size by simp; omega, hst]
    refine wpAny_bind (wpAny_holding (unpackItemsL (I.ok.hd hc) p.isList fun h' kp => ?_))
    have I1 : Inv X pins σ H { s with heap := h' } := I.kept (t' := s.toks) fun b o e => kp b o (Nat.ne_of_lt (Heap.lt_size e)) e
    exact h.run pins _ σ H xs _ Q I1 (by simpa using rv) hw
def gNames : List Nat → TGs
  | [] => gNil
  | i :: is => gCons (gName i) (gNames is)
theorem gNames_sem {S : Sx} {O : Lab} {H : Hp} {R : DEnv → L2.St → Prop} : ∀ (is : List Nat) {xs : List D} {vs : List V} {ρ : DEnv} {σ : L2.St} {Q : L2.St → Hp → Prop}, (∀ i ∈ is, ∀ ρ σ d v, R ρ σ → Rep S.ds (LV O) H d v → R (ρ.set i (some d)) (σ.set i (some v))) → RepL S.ds (LV O) H xs vs → xs.length = is.length → R ρ σ →
    (∀ σ', R ((is.zip xs).foldl (fun ρ p => ρ.set p.1 (some p.2)) ρ) σ' → Q σ' H) → gNames is vs σ H Q
  | [], xs, vs, ρ, σ, Q, _, r, hl, h, hQ => by
    cases xs with
    | nil => cases r; exact ⟨rfl, hQ _ h⟩
    | cons x xs => simp at hl
  | i :: is, xs, vs, ρ, σ, Q, hs, r, hl, h, hQ => by
    cases xs with
    | nil => simp at hl
    | cons x xs =>
      cases r with
      | cons r1 r2 =>
      exact ⟨_, _, rfl, gNames_sem is (fun j hj => hs j (List.mem_cons_of_mem _ hj)) r2 (by simpa using hl) (hs i List.mem_cons_self _ _ _ _ h r1) hQ⟩
def gPat (K : PySem.W.Frag) : Pat → TG
  | .p i => gName i
  | .pn is => gSeq K is.length (gNames is)
theorem gPat_sem {K : PySem.W.Frag} {S : Sx} {O : Lab} {H : Hp} {R : DEnv → L2.St → Prop} (p : Pat) {d : D} {v : V} {ρ : DEnv} {σ : L2.St} {kk : DEnv → Prop} {Q : L2.St → Hp → Prop} (hs : ∀ i ∈ patSlots p, ∀ ρ σ d v, R ρ σ → Rep S.ds (LV O) H d v → R (ρ.set i (some d)) (σ.set i (some v))) (r : Rep S.ds (LV O) H d v) (h : R ρ σ) (hb : bindPat p d ρ kk)
    (hQ : ∀ ρ' σ', R ρ' σ' → kk ρ' → Q σ' H) : gPat K p v σ H Q := by
  cases p with
  | p i => exact hQ _ _ (hs i (List.mem_singleton.mpr rfl) _ _ _ _ h r) hb
  | pn is =>
    simp only [bindPat] at hb
    have go : ∀ {xs : List D} {a : Addr} {vs : List V}, v = .ref a → (SqT K H a vs ∨ SqL K H a vs) → RepL S.ds (LV O) H xs vs → xs.length = is.length ∧ kk ((is.zip xs).foldl (fun ρ p => ρ.set p.1 (some p.2)) ρ) → gPat K (.pn is) v σ H Q := by
      intro xs a vs ev hq rl hk
      exact ⟨a, vs, ev, hq, by rw [← rl.length, hk.1], gNames_sem is hs rl hk.1 h fun σ' hR => hQ _ _ hR hk.2⟩
    cases r with
    | tup g zl i => exact go rfl (.inl g.sq) i hb
    | lst l0 g zl i => exact go rfl (.inr (SqL.of g)) i hb
    | pr g r1 r2 => exact go rfl (.inl (SqT.of g)) (.cons r1 (.cons r2 .nil)) hb
    | _ => exact hb.elim
section
variable {X : Cx} {Γ : Gam} {F : Str → Bool} {k : Nat} {c : SC} (w : WOk X Γ F k c)
include w
theorem pgs_names : ∀ (is : List Nat) (es : List Expr), is.length = es.length → ((is.zip es).all fun p => match p.2 with
    | .Name x _ => stoB c p.1 x
    | _ => false) = true → PGs X es (gNames is) ∧ (assignEach es X.env).length = is.length ∧ (assignEach es X.env).findIdx? (·.1) = none
  | [], [], _, _ => ⟨pgs_nil, rfl, rfl⟩
  | [], e :: es, h, _ => by simp at h
  | i :: is, [], h, _ => by simp at h
  | i :: is, e :: es, h, hm => by
    rw [List.zip_cons_cons, List.all_cons, Bool.and_eq_true] at hm
    obtain ⟨h1, h2⟩ := hm
    obtain ⟨a1, a2, a3⟩ := pgs_names is es (by simpa using h) h2
    cases e <;> first | (cases h1; done) | skip
    rename_i x pos
    obtain ⟨b1, b2, b3⟩ := w.sto h1
    refine ⟨pgs_cons (pg_name w.nd b1 b2 b3) a1 rfl, ?_, ?_⟩
    · show (assignEach es X.env).length + 1 = is.length + 1
      rw [a2]
    · show ((false, _) :: assignEach es X.env).findIdx? (·.1) = none
      rw [List.findIdx?_cons, a3]
      rfl
theorem pg_pat (p : Pat) (tg : Expr) (h : mPat c p tg = true) : PG X tg (gPat X.K p) := by
  unfold mPat at h
  split at h
  · rename_i i x pos
    obtain ⟨b1, b2, b3⟩ := w.sto h
    exact pg_name w.nd b1 b2 b3
  · rename_i is es kk pos
    rw [Bool.and_eq_true, decide_eq_true_eq] at h
    obtain ⟨a1, a2, a3⟩ := pgs_names w is es h.1 h.2
    exact pg_seq w.calm a1 a2 a3
  · cases h
end
theorem mPat_tup {c : SC} {is : List Nat} {tg : Expr} (h : mPat c (.pn is) tg = true) : ∃ es kk pos, tg = .Tuple es kk pos := by
  unfold mPat at h
  split at h
  · rename_i q
    exact absurd q (fun z => nomatch z)
  · exact ⟨_, _, _, rfl⟩
  · cases h
end DL
/-! DL, part W: readings of expressions, rule by rule. -/
namespace DL
open PySem PySem.Spec PyProof.Rows L2 PySem.W
def tE (Γ : Gam) (n : Nat) (T : Tags) (m : Nat) (ir : Ex) : TE := fun σ H Q => ∃ S O ρ, StE S n T O ρ σ H ∧ wpE Γ ir ρ (Res m S O H Q)
def tT (Γ : Gam) (n : Nat) (T : Tags) (ir : Ex) : TT := fun σ H Q => ∃ S O ρ, StE S n T O ρ σ H ∧ wpE Γ ir ρ (dB fun b => ∀ O' H', Ext S O H O' H' → Q b H')
def tXs (Γ : Gam) (n : Nat) (T : Tags) (m : Nat) (es : Xs) : TA := fun σ H Q => ∃ S O ρ, StE S n T O ρ σ H ∧ wpXs Γ es ρ fun ds => ∀ O' H' vs, Ext S O H O' H' → RepMs m S O' H' ds vs → Q vs H'
def tEo (Γ : Gam) (n : Nat) (T : Tags) (eo : Eo) : TO := fun σ H Q => ∃ S O ρ, StE S n T O ρ σ H ∧ wpEo Γ eo ρ fun o => ∀ O' H', Ext S O H O' H' → Q o H'
def tAl (Γ : Gam) (n : Nat) (T : Tags) (es : Xs) : TT := fun σ H Q => ∃ S O ρ, StE S n T O ρ σ H ∧ wpAnd Γ es ρ fun b => ∀ O' H', Ext S O H O' H' → Q b H'
def tOl (Γ : Gam) (n : Nat) (T : Tags) (es : Xs) : TT := fun σ H Q => ∃ S O ρ, StE S n T O ρ σ H ∧ wpOr Γ es ρ fun b => ∀ O' H', Ext S O H O' H' → Q b H'
/-- as a value -/
def tV (t : TT) : TE := fun σ H Q => t σ H fun b H' => Q (.bl b) H'
section
variable {S : Sx} {O O' : Lab} {H H' : Hp} {n : Nat} {T : Tags} {ρ : DEnv} {σ : L2.St}
theorem Ext.res {m : Nat} {Q : VK} {d : D} (h : ∀ O' H' v, Ext S O H O' H' → RepM m S O' H' d v → Q v H') : Res m S O H Q d := fun O' H' v x r _ => h O' H' v x r
theorem dB_get {Q : Bool → Prop} {d : D} (h : dB Q d) : ∃ b, d = .bl b ∧ Q b := by cases d <;> first | exact ⟨_, rfl, h⟩ | exact h.elim
theorem dI_get {Q : Int → Prop} {d : D} (h : dI Q d) : ∃ b, d = .int b ∧ Q b := by cases d <;> first | exact ⟨_, rfl, h⟩ | exact h.elim
theorem rep_bl {m : Nat} {b : Bool} {v : V} (h : RepM m S O H (.bl b) v) : v = .bl b := by
  have := h.read
  cases this
  rfl
theorem rep_int {m : Nat} {b : Int} {v : V} (h : RepM m S O H (.int b) v) : v = .int b := by
  have := h.read
  cases this
  rfl
end
section
variable {X : Cx} {Γ : Gam} {F : Str → Bool} {k : Nat} {c : SC} (w : WOk X Γ F k c) {n : Nat} {T : Tags} {m : Nat}
include w
theorem sn_v {i : Nat} {x : Str} {p : Pos} (h : varB c i x = true) (hok : okE F T m (.v i) = true) : PE X (.Name x p) (tE Γ n T m (.v i)) := by
  obtain ⟨h1, h2, h3, h4⟩ := w.name h
  refine (pe_var h1 h2 h3 h4).weak ?_
  rintro σ H Q ⟨S, O, ρ, st, h⟩
  rw [wpE] at h
  obtain ⟨d, e, q⟩ := h.get
  have e' : ρ[i]? = some (some d) := by
    rw [List.getD_eq_getElem?_getD] at e
    cases hx : ρ[i]? with
    | none => rw [hx] at e; cases e
    | some o => rw [hx] at e; simp at e; rw [e]
  obtain ⟨v, g1, g2, g3, g4, g5⟩ := st.val e'
  have hm : m ≠ 2 ∧ m ≠ 3 := by
    constructor <;> (intro z; subst z; unfold okE at hok; cases hok)
  refine ⟨v, g1, q O H v Ext.refl ?_ (.old hm.1 hm.2)⟩
  unfold okE at hok
  split at hok
  · exact g3 (by simpa using hok)
  · have : tg T i ≤ 1 := of_decide_eq_true hok
    rcases Nat.lt_or_ge (tg T i) 1 with z | z
    · exact (g3 (by omega)).top
    · exact g4 (by omega)
  · cases hok
  · cases hok
  · exact g2
  · rw [Bool.or_eq_true, decide_eq_true_eq] at hok
    rcases hok with z | z
    · exact (g3 (by simpa using z)).top2
    · exact g5 z
  · cases hok
theorem sn_const {ir : Ex} {e : Expr} {d : D} {v : V} (hp : PE X e (tC v)) (hw : ∀ ρ Q, wpE Γ ir ρ Q → Q d) (r : ∀ ds L H, Rep ds L H d v) (f : flatD d = true) : PE X e (tE Γ n T m ir) := by
  refine hp.weak ?_
  rintro σ H Q ⟨S, O, ρ, st, h⟩
  exact (hw _ _ h).scal r f
theorem sn_tup {es : Xs} {es' : List Expr} {kk : Nat} {p : Pos} (h : PA X es' (tXs Γ n T 0 es)) : PE X (.Tuple es' kk p) (tE Γ n T m (.tup es)) := by
  refine (pe_tupG h).weak ?_
  rintro σ H Q ⟨S, O, ρ, st, h⟩
  rw [wpE] at h
  refine ⟨S, O, ρ, st, wpXs.mono w.mono es ρ (fun ds hd O' H' vs x r => ?_) h⟩
  have e := r.val.length
  exact ⟨by omega, (hd.2.ext x).tup r.val (by omega)⟩
theorem sn_lst {es : Xs} {es' : List Expr} {p : Pos} (hm : m ≠ 3) (h : PA X es' (tXs Γ n T 0 es)) : PE X (.List es' p) (tE Γ n T m (.lst es)) := by
  refine (pe_lst h).weak ?_
  rintro σ H Q ⟨S, O, ρ, st, h⟩
  rw [wpE] at h
  refine ⟨S, O, ρ, st, wpXs.mono w.mono es ρ (fun ds hd O' H' vs x r => ?_) h⟩
  have e := r.val.length
  exact ⟨by omega, (hd.2.ext x).lst hm r.val (by omega)⟩
theorem sn_dnil {t : Bool} {p : Pos} (hm : m ≠ 3) : PE X (.Dict [] [] p) (tE Γ n T m (.dnil t)) := by
  cases t with
  | true =>
    refine pe_dnilT.weak ?_
    rintro σ H Q ⟨S, O, ρ, st, h⟩
    rw [wpE] at h
    exact h.dTn hm .nil (Nat.zero_le _)
  | false =>
    refine pe_dnewK.weak ?_
    rintro σ H Q ⟨S, O, ρ, st, h⟩
    rw [wpE] at h
    exact h.dKn hm .nil (Nat.zero_le _)
theorem sn_bin {o : Bop} {a b : Ex} {l r : Expr} {p : Pos} (hm : m ≠ 3) (ha : PE X l (tE Γ n T 1 a)) (hb : PE X r (tE Γ n T 1 b)) : PE X (.BinOp l (toOp o) r p) (tE Γ n T m (.bin o a b)) := by
  refine (pe_op (bop_ok m hm o) ha hb).weak ?_
  rintro σ H Q ⟨S, O, ρ, st, h⟩
  rw [wpE] at h
  refine ⟨S, O, ρ, st, wpE.mono w.mono a ρ (fun x hx => Ext.res fun O1 H1 v1 x1 r1 => ?_) h⟩
  refine ⟨S, O1, ρ, st.ext x1, wpE.mono w.mono b ρ (fun y hy => Ext.res fun O2 H2 v2 x2 r2 => ?_) hx⟩
  obtain ⟨z, e, q⟩ := hy.get
  exact ⟨S, O2, x, y, z, r1.ext x2, r2, e, q.ext (x1.trans x2)⟩
theorem sn_neg {a : Ex} {l : Expr} {p : Pos} (ha : PE X l (tE Γ n T 4 a)) : PE X (.UnaryOp .USub l p) (tE Γ n T m (.neg a)) := by
  refine (pe_un un_neg ha).weak ?_
  rintro σ H Q ⟨S, O, ρ, st, h⟩
  rw [wpE] at h
  refine ⟨S, O, ρ, st, wpE.mono w.mono a ρ (fun x hx => Ext.res fun O1 H1 v1 x1 r1 => ?_) h⟩
  obtain ⟨i, rfl, q⟩ := dI_get hx
  obtain rfl := rep_int r1
  exact ⟨i, rfl, (q.ext x1).scal (fun _ _ _ => .int _) rfl⟩
theorem sn_V {ir : Ex} {e : Expr} {t : TT} (hp : PE X e (tV t)) (hw : ∀ σ H Q, tE Γ n T m ir σ H Q → t σ H fun b H' => Q (.bl b) H') : PE X e (tE Γ n T m ir) := hp.weak hw
theorem sn_nt {a : Ex} {l : Expr} {p : Pos} (ha : PE X l (tE Γ n T 4 a)) : PE X (.UnaryOp .Not l p) (tE Γ n T m (.nt a)) := by
  refine (pe_not ha).weak ?_
  rintro σ H Q ⟨S, O, ρ, st, h⟩
  rw [wpE] at h
  refine ⟨S, O, ρ, st, wpE.mono w.mono a ρ (fun x hx => Ext.res fun O1 H1 v1 x1 r1 => ?_) h⟩
  obtain ⟨i, rfl, q⟩ := dB_get hx
  obtain rfl := rep_bl r1
  exact ⟨i, rfl, (q.ext x1).scal (fun _ _ _ => .bl _) rfl⟩
theorem sn_ntT {a : Ex} {l : Expr} {p : Pos} (ha : PT X l (tT Γ n T a)) : PT X (.UnaryOp .Not l p) (tT Γ n T (.nt a)) := by
  refine (pt_not ha).weak ?_
  rintro σ H Q ⟨S, O, ρ, st, h⟩
  rw [wpE] at h
  refine ⟨S, O, ρ, st, wpE.mono w.mono a ρ (fun x hx => ?_) h⟩
  obtain ⟨i, rfl, q⟩ := dB_get hx
  exact q
/-- a test by its value -/
theorem sn_defT {a : Ex} {e : Expr} (ha : PE X e (tE Γ n T 4 a)) (hd : isDef e = true) : PT X e (tT Γ n T a) := by
  refine (pt_val ha (def_true hd)).weak ?_
  rintro σ H Q ⟨S, O, ρ, st, h⟩
  refine ⟨S, O, ρ, st, wpE.mono w.mono a ρ (fun x hx => Ext.res fun O1 H1 v1 x1 r1 => ?_) h⟩
  obtain ⟨i, rfl, q⟩ := dB_get hx
  obtain rfl := rep_bl r1
  exact ⟨i, rfl, q O1 H1 x1⟩
theorem sn_ite {t a b : Ex} {t' l r : Expr} {p : Pos} (ht : PT X t' (tT Γ n T t)) (ha : PE X l (tE Γ n T m a)) (hb : PE X r (tE Γ n T m b)) : PE X (.IfExp t' l r p) (tE Γ n T m (.ite t a b)) := by
  refine (pe_ifExp ht ha hb).weak ?_
  rintro σ H Q ⟨S, O, ρ, st, h⟩
  rw [wpE] at h
  refine ⟨S, O, ρ, st, wpE.mono w.mono t ρ (fun x hx => ?_) h⟩
  obtain ⟨i, rfl, q⟩ := dB_get hx
  intro O1 H1 x1
  cases i
  · exact ⟨S, O1, ρ, st.ext x1, wpE.mono w.mono b ρ (fun y hy => hy.ext x1) q⟩
  · exact ⟨S, O1, ρ, st.ext x1, wpE.mono w.mono a ρ (fun y hy => hy.ext x1) q⟩
theorem op_map {o : Option Bool} {Q : D → Prop} (h : Opt (o.map D.bl) Q) : ∃ b, o = some b ∧ Q (.bl b) := by
  cases o with
  | none => exact h.elim
  | some b => exact ⟨b, rfl, h⟩
theorem sn_cmp {o : Cop} {a b : Ex} {l r : Expr} {p : Pos} (ha : PE X l (tE Γ n T 4 a)) (hb : PE X r (tE Γ n T 4 b)) (hf : frm r = true) : PE X (.Compare l [toCmp o] [r] p) (tE Γ n T m (.cmp o a b)) := by
  refine (pe_cmpR (cop_ok w.hu o) ha hb (frm_marks hf)).weak ?_
  rintro σ H Q ⟨S, O, ρ, st, h⟩
  rw [wpE] at h
  refine ⟨S, O, ρ, st, wpE.mono w.mono a ρ (fun x hx => Ext.res fun O1 H1 v1 x1 r1 => ?_) h⟩
  refine ⟨S, O1, ρ, st.ext x1, wpE.mono w.mono b ρ (fun y hy => Ext.res fun O2 H2 v2 x2 r2 => ?_) hx⟩
  obtain ⟨z, e, q⟩ := op_map w hy
  exact ⟨S, O2, x, y, z, (r1.ext x2).read, r2.read, e, (q.ext (x1.trans x2)).scal (fun _ _ _ => .bl _) rfl⟩
theorem sn_cmpT {o : Cop} {a b : Ex} {l r : Expr} {p : Pos} (ha : PE X l (tE Γ n T 4 a)) (hb : PE X r (tE Γ n T 4 b)) (hf : frm r = true) : PT X (.Compare l [toCmp o] [r] p) (tT Γ n T (.cmp o a b)) := by
  refine (pt_cmpR (cop_ok w.hu o) ha hb (frm_marks hf)).weak ?_
  rintro σ H Q ⟨S, O, ρ, st, h⟩
  rw [wpE] at h
  refine ⟨S, O, ρ, st, wpE.mono w.mono a ρ (fun x hx => Ext.res fun O1 H1 v1 x1 r1 => ?_) h⟩
  refine ⟨S, O1, ρ, st.ext x1, wpE.mono w.mono b ρ (fun y hy => Ext.res fun O2 H2 v2 x2 r2 => ?_) hx⟩
  obtain ⟨z, e, q⟩ := op_map w hy
  exact ⟨S, O2, x, y, z, (r1.ext x2).read, r2.read, e, z, rfl, q O2 H2 (x1.trans x2)⟩
theorem sn_cmp2 {o o' : Cop} {a b d : Ex} {l r q : Expr} {p : Pos} (ha : PE X l (tE Γ n T 4 a)) (hb : PE X r (tE Γ n T 4 b)) (hd : PE X q (tE Γ n T 4 d)) (hf : frm r = true) (hf' : frm q = true) : PE X (.Compare l [toCmp o, toCmp o'] [r, q] p) (tE Γ n T m (.cmp2 o o' a b d)) := by
  refine (pe_chain (cop_ok w.hu o) (cop_ok w.hu o') ha hb hd (by show lastMarks [toCmp o'] [q] = false; unfold lastMarks; exact frm_marks hf')).weak ?_
  rintro σ H Q ⟨S, O, ρ, st, h⟩
  rw [wpE] at h
  refine ⟨S, O, ρ, st, wpE.mono w.mono a ρ (fun x hx => Ext.res fun O1 H1 v1 x1 r1 => ?_) h⟩
  refine ⟨S, O1, ρ, st.ext x1, wpE.mono w.mono b ρ (fun y hy => Ext.res fun O2 H2 v2 x2 r2 => ?_) hx⟩
  obtain ⟨z, e, g⟩ := op_map w hy
  refine ⟨S, O2, x, y, z, (r1.ext x2).read, r2.read, e, z, rfl, ?_⟩
  cases z
  · rw [if_neg (by simp)]
    exact ((show Res m S O H Q (.bl false) from g).ext (x1.trans x2)).scal (fun _ _ _ => .bl _) rfl
  · rw [if_pos rfl]
    refine ⟨S, O2, ρ, (st.ext x1).ext x2, wpE.mono w.mono d ρ (fun u hu => Ext.res fun O3 H3 v3 x3 r3 => ?_) g⟩
    obtain ⟨z', e', g'⟩ := op_map w hu
    exact ⟨S, O3, y, u, z', (r2.ext x3).read, r3.read, e', (g'.ext ((x1.trans x2).trans x3)).scal (fun _ _ _ => .bl _) rfl⟩
end
end DL
/-! DL, part X: readings of expressions, the rest but comprehensions. -/
namespace DL
open PySem PySem.Spec PyProof.Rows L2 PySem.W
/-- p alone gets a label -/
theorem Ext.label {S : Sx} {O : Lab} {H : Hp} {p : Addr} {l : Option Nat} (hs : ∀ o, H p ≠ some o) : Ext S O H (relab O p l) H where
  old := fun e _ => e
  lab := fun {a o} e => relab_ne fun z => hs o (by rw [← z]; exact e)
  dom := fun e => ⟨_, e⟩
  tup := fun e => e
  gt := fun e => e
  src := fun h => by
    obtain ⟨h1, h2, h3, c, l', mi, t, h4, h5, h6⟩ := id h
    exact h.relab (relab_ne fun z => hs _ (by rw [← z]; exact h4)) (relab_ne fun z => hs _ (by rw [← z]; exact h5))
section
variable {S : Sx} {O O' : Lab} {H H' : Hp} {m : Nat} {d : D} {v : V} {Q : VK}
theorem relab_kp {p : Addr} : Kp (LV O) (LV (relab O p none)) H H :=
  ⟨fun r _ h => ⟨by show relab O p none _ = none; unfold relab; split; rfl; exact h, r⟩, fun r h => ⟨by show relab O p none _ = none; unfold relab; split; rfl; exact h, r⟩, fun _ _ e => e, fun _ _ _ e => e⟩
/-- a new container is frozen -/
theorem Own1.freeze {p : Addr} (hp : H p = none) (x : Ext S O H O' H') (h : Own1 S O' H' 2 d v) (hv : isC d = true → v = .ref p) : ∃ O'', Ext S O H O'' H' ∧ Rep S.ds (LV O'') H' d v := by
  have xx : Ext S O H (relab O' p none) H' := by
    refine ⟨x.old, fun {a o} e => ?_, x.dom, x.tup, x.gt, fun h => ?_⟩
    · rw [relab_ne (ne_of_none e hp)]; exact x.lab e
    · obtain ⟨h1, h2, h3, c, l', mi, t, h4, h5, h6⟩ := id h
      exact (x.src h).relab (relab_ne (ne_of_none h4 hp)) (relab_ne (ne_of_none h5 hp))
  refine ⟨_, xx, ?_⟩
  cases d with
  | lst xs =>
    obtain ⟨q, vs, e, n, r, z, i⟩ := h
    obtain rfl : q = p := by rw [hv rfl] at e; cases e; rfl
    rw [hv rfl]
    exact .lst relab_same r z (RepL.kp relab_kp _ _ i)
  | dK xs =>
    obtain ⟨q, vs, e, n, r, z, i⟩ := h
    obtain rfl : q = p := by rw [hv rfl] at e; cases e; rfl
    rw [hv rfl]
    exact .dK relab_same (.inl r) z (RepK.kp relab_kp _ _ i)
  | dT xs =>
    obtain ⟨q, vs, e, n, r, z, i⟩ := h
    obtain rfl : q = p := by rw [hv rfl] at e; cases e; rfl
    rw [hv rfl]
    exact .dT relab_same (.inl r) z (RepT.kp relab_kp _ _ i)
  | _ => exact Rep.kp relab_kp _ _ h
theorem Own1.addr {l : Nat} (h : Own1 S O H l d v) (hc : isC d = true) : ∃ p, v = .ref p := by
  cases d with
  | lst xs => obtain ⟨p, _, e, _⟩ := h; exact ⟨p, e⟩
  | dK xs => obtain ⟨p, _, e, _⟩ := h; exact ⟨p, e⟩
  | dT xs => obtain ⟨p, _, e, _⟩ := h; exact ⟨p, e⟩
  | _ => cases hc
/-- a new list or dict may be taken in another mode -/
theorem Res.of2 (h : Res m S O H Q d) (hm : m ≠ 3) : Res 2 S O H Q d := by
  by_cases e : m = 2
  · rw [← e]; exact h
  · intro O' H' v x r nw
    have r' : Own1 S O' H' 2 d v := r
    by_cases hc : isC d = true
    · obtain ⟨p, ev⟩ := r'.addr hc
      obtain ⟨O'', x', r''⟩ := Own1.freeze (nw (.inl rfl) hc p ev) x r' fun _ => ev
      exact h O'' H' v x' (RepM.val r'' e hm) (.old e hm)
    · have r'' : Rep S.ds (LV O') H' d v := by cases d <;> first | exact r' | exact absurd rfl hc
      exact h O' H' v x (RepM.val r'' e hm) (.old e hm)
theorem Res.of0 (h : Res m S O H Q d) (hm : m ≠ 2) (hm' : m ≠ 3) : Res 0 S O H Q d := fun O' H' v x r _ => h O' H' v x (RepM.val r hm hm') (.old hm hm')
end
section
variable {X : Cx} {Γ : Gam} {F : Str → Bool} {k : Nat} {c : SC} (w : WOk X Γ F k c) {n : Nat} {T : Tags} {m : Nat}
include w
theorem sn_ix {a i : Ex} {l r : Expr} {p : Pos} {b : Nat} (hm : IxM b m) (ha : PE X l (tE Γ n T b a)) (hb : PE X r (tE Γ n T 4 i)) (hf : frm r = true) : PE X (.Subscript l r p) (tE Γ n T m (.ix a i)) := by
  refine (pe_ix (ix_ok w.hu hm) ha hb (frm_ix hf)).weak ?_
  rintro σ H Q ⟨S, O, ρ, st, h⟩
  rw [wpE] at h
  refine ⟨S, O, ρ, st, wpE.mono w.mono a ρ (fun x hx => Ext.res fun O1 H1 v1 x1 r1 => ?_) h⟩
  refine ⟨S, O1, ρ, st.ext x1, wpE.mono w.mono i ρ (fun y hy => Ext.res fun O2 H2 v2 x2 r2 => ?_) hx⟩
  obtain ⟨z, e, q⟩ := hy.get
  exact ⟨S, O2, x, y, z, r1.ext x2, r2.read, e, q.ext (x1.trans x2)⟩
theorem sn_no : PO X none (tEo Γ n T .no) := by
  refine po_none.weak ?_
  rintro σ H Q ⟨S, O, ρ, st, h⟩
  rw [wpEo] at h
  exact h O H Ext.refl
theorem sn_yes {a : Ex} {e : Expr} (ha : PE X e (tE Γ n T 4 a)) : PO X (some e) (tEo Γ n T (.yes a)) := by
  refine (po_some ha).weak ?_
  rintro σ H Q ⟨S, O, ρ, st, h⟩
  rw [wpEo] at h
  refine ⟨S, O, ρ, st, wpE.mono w.mono a ρ (fun x hx => Ext.res fun O1 H1 v1 x1 r1 => ?_) h⟩
  obtain ⟨i, rfl, q⟩ := dI_get hx
  obtain rfl := rep_int r1
  exact ⟨i, rfl, q O1 H1 x1⟩
theorem sn_sl {a : Ex} {lo hi : Eo} {l : Expr} {lo' hi' : Option Expr} {p q : Pos} (hm : m ≠ 3) (ha : PE X l (tE Γ n T 1 a)) (hl : PO X lo' (tEo Γ n T lo)) (hh : PO X hi' (tEo Γ n T hi)) : PE X (.Subscript l (.Slice lo' hi' none q) p) (tE Γ n T m (.sl a lo hi)) := by
  refine (pe_slice (sl_ok hm) ha hl hh).weak ?_
  rintro σ H Q ⟨S, O, ρ, st, h⟩
  rw [wpE] at h
  refine ⟨S, O, ρ, st, wpE.mono w.mono a ρ (fun x hx => Ext.res fun O1 H1 v1 x1 r1 => ?_) h⟩
  refine ⟨S, O1, ρ, st.ext x1, wpEo.mono w.mono lo ρ (fun i hi' O2 H2 x2 => ?_) hx⟩
  refine ⟨S, O2, ρ, (st.ext x1).ext x2, wpEo.mono w.mono hi ρ (fun j hj O3 H3 x3 => ?_) hi'⟩
  obtain ⟨z, e, q⟩ := hj.get
  exact ⟨S, O3, x, z, (r1.ext x2).ext x3, e, q.ext ((x1.trans x2).trans x3)⟩
theorem sn_rev {a : Ex} {l : Expr} {kk : Nat} {p1 p2 p3 p : Pos} (hm : m ≠ 3) (ha : PE X l (tE Γ n T 1 a)) : PE X (.Subscript l (.Slice none none (some (.UnaryOp .USub (.Constant (.int 1) kk p1) p2)) p3) p) (tE Γ n T m (.rev a)) := by
  refine (pe_rev hm ha).weak ?_
  rintro σ H Q ⟨S, O, ρ, st, h⟩
  rw [wpE] at h
  refine ⟨S, O, ρ, st, wpE.mono w.mono a ρ (fun x hx => Ext.res fun O1 H1 v1 x1 r1 => ?_) h⟩
  obtain ⟨z, e, q⟩ := hx.get
  exact ⟨S, O1, x, z, r1, e, q.ext x1⟩
/-! arguments -/
theorem sn_xnil : PA X [] (tXs Γ n T m .nil) := by
  refine pa_nil.weak ?_
  rintro σ H Q ⟨S, O, ρ, st, h⟩
  rw [wpXs] at h
  exact h O H [] Ext.refl .nil
theorem sn_xcons {a : Ex} {es : Xs} {e : Expr} {es' : List Expr} (hs : isStar e = false) (ha : PE X e (tE Γ n T m a)) (hb : PA X es' (tXs Γ n T m es)) : PA X (e :: es') (tXs Γ n T m (.cons false a es)) := by
  refine (pa_cons ha hb (star_cons hs)).weak ?_
  rintro σ H Q ⟨S, O, ρ, st, h⟩
  rw [wpXs] at h
  refine ⟨S, O, ρ, st, wpE.mono w.mono a ρ (fun x hx => Ext.res fun O1 H1 v1 x1 r1 => ?_) h⟩
  refine ⟨S, O1, ρ, st.ext x1, wpXs.mono w.mono es ρ (fun ds hd O2 H2 vs x2 r2 => ?_) hx⟩
  exact hd O2 H2 (v1 :: vs) (x1.trans x2) (.cons (r1.ext x2) r2)
theorem RepL.ms (hm : m = 0 ∨ m = 1 ∨ m = 4) {S : Sx} {O : Lab} {H : Hp} : ∀ {ds : List D} {vs : List V}, RepL S.ds (LV O) H ds vs → RepMs m S O H ds vs
  | _, _, .nil => .nil
  | _, _, .cons r t => .cons (RepM.val r (by omega) (by omega)) (RepL.ms hm t)
theorem RepMs.append {S : Sx} {O : Lab} {H : Hp} : ∀ {ds es : List D} {vs ws : List V}, RepMs m S O H ds vs → RepMs m S O H es ws → RepMs m S O H (ds ++ es) (vs ++ ws)
  | _, _, _, _, .nil, s => s
  | _, _, _, _, .cons r t, s => .cons r (RepMs.append t s)
theorem sn_xstar {a : Ex} {es : Xs} {e : Expr} {es' : List Expr} {p : Pos} (hm : m = 0 ∨ m = 1 ∨ m = 4) (ha : PE X e (tE Γ n T 1 a)) (hb : PA X es' (tXs Γ n T m es)) : PA X (.Starred e p :: es') (tXs Γ n T m (.cons true a es)) := by
  refine (StX.pa_star ha hb rfl).weak ?_
  rintro σ H Q ⟨S, O, ρ, st, h⟩
  rw [wpXs] at h
  refine ⟨S, O, ρ, st, wpE.mono w.mono a ρ (fun x hx => Ext.res fun O1 H1 v1 x1 r1 => ?_) h⟩
  have go : ∀ {q : Addr} {us : List V} {xs : List D}, v1 = .ref q → (SqT X.K H1 q us ∨ SqL X.K H1 q us) → RepL S.ds (LV O1) H1 xs us → (wpXs Γ es ρ fun ds => ∀ O' H' vs, Ext S O H O' H' → RepMs m S O' H' (xs ++ ds) vs → Q vs H') →
      ∃ p ys, v1 = V.ref p ∧ (SqT X.K H1 p ys ∨ SqL X.K H1 p ys) ∧ tXs Γ n T m es σ H1 fun zs H2 => Q (ys ++ zs) H2 := by
    intro q us xs ev hq rl hm'
    refine ⟨q, us, ev, hq, S, O1, ρ, st.ext x1, wpXs.mono w.mono es ρ (fun ds hd O2 H2 vs x2 r2 => ?_) hm'⟩
    exact hd O2 H2 _ (x1.trans x2) (RepMs.append w (RepL.ms w hm (RepL.kp x2.kpV _ _ rl)) r2)
  cases x with
  | lst xs =>
    obtain ⟨q, us, ev, _, r, z, i⟩ := (show Top S O1 H1 (.lst xs) v1 from r1)
    exact go ev (.inr (SqL.of r)) i hx
  | tup xs =>
    have r1' : Rep S.ds (LV O1) H1 (.tup xs) v1 := r1
    cases r1' with
    | tup g z i => exact go rfl (.inl g.sq) i hx
  | _ => exact hx.elim
/-! calls -/
theorem starF {e : Expr} {es : List Expr} (h : (e :: es).any isStar = false) : isStar e = false ∧ es.any isStar = false := by
  rw [List.any_cons, Bool.or_eq_false_iff] at h
  exact h
theorem sn_call {f : Str} {es : Xs} {es' : List Expr} {q p : Pos} (hm : m ≠ 3) (hf : m = 2 → F f = true) (hg : glB c.sc f = true) (hn : nmOk f = true) (h : PA X es' (tXs Γ n T 0 es)) (h1 : es' ≠ []) (h2 : es'.any isStar = false) : PE X (.Call (.Name f q) es' [] p) (tE Γ n T m (.call f es)) := by
  cases es' with
  | nil => exact absurd rfl h1
  | cons e es' =>
  obtain ⟨s1, s2⟩ := starF w h2
  cases hΓ : Γ f with
  | none =>
    refine ⟨fun pins s σ H Q I ⟨S, O, ρ, st, hh⟩ => ?_⟩
    rw [wpE, hΓ] at hh
    exact hh.elim
  | some bg =>
  obtain ⟨b, g⟩ := bg
  obtain ⟨fa, fd, ps, a1, a2, a3, a4, a5⟩ := (w.fns f b g hΓ).ex
  have hN : (f == ("__debug__" : Str)) = false := by
    unfold nmOk at hn
    simp only [Bool.and_eq_true, Bool.not_eq_true'] at hn
    exact hn.1.1
  refine (pe_call (E := fun _ _ _ => False) a4 w.room (w.gl hg) a1 a2 a3 .nil pass0 h hN (star_cons s1) (star_any s2)).weak ?_
  rintro σ H Q ⟨S, O, ρ, st, hh⟩
  rw [wpE, hΓ] at hh
  refine ⟨S, O, ρ, st, wpXs.mono w.mono es ρ (fun ds hd O' H' vs x r => ?_) hh⟩
  have rl := r.val
  refine ⟨by rw [List.append_nil, ← rl.length]; exact a5 _ _ hd, S, O', ds, x.src st.src, by rw [List.append_nil]; exact rl, ?_⟩
  refine w.mono f b g hΓ ds _ _ (fun d hq => ?_) hd
  cases b with
  | true => exact (hq.ext x).of2 hm
  | false =>
    have h2 : m ≠ 2 := fun z => by
      have := w.fresh f false g hΓ (hf z)
      cases this
    exact (hq.ext x).of0 h2 hm
end
end DL
/-! DL, part Y: built-ins, and/or, iterators. -/
namespace DL
open PySem PySem.Spec PyProof.Rows L2 PySem.W
/-- a dict's item by a plain key -/
def rIxK : R2 := fun x y H Q => ∃ (p : Addr) (vs : List (L2.Key × V)) (k : L2.Key), x = .ref p ∧ y = kV k ∧ Rd H p (.dK vs) ∧ ∃ w, valV vs k = some w ∧ Q w H
theorem ix_dK {X : Cx} (hu : X.A.units + 64 < cLine) : IxR X rIxK := by
  intro value slice pins s σ H x y v u Q I rx ry ⟨p, vs, k, h1, h2, h3, w, h4, hz⟩ hs
  subst h1 h2
  cases rx
  have g : DGet H p (kV k) (some w) := .inl ⟨vs, k, h3, rfl, h4.symm⟩
  exact tail_any (ops := [.ref p, u]) (dict_typeIs I g) PySem.F.slot_dict_getitem.lookup (d_getItem (hu1 hu) I g ry fun w' s' I' rw' => ⟨w, H, I', rw', hz⟩) hs
section
variable {X : Cx} {Γ : Gam} {F : Str → Bool} {k : Nat} {c : SC} (w : WOk X Γ F k c) {n : Nat} {T : Tags} {m : Nat}
include w
theorem sn_blt {f : Bf} {es : Xs} {es' : List Expr} {q p : Pos} (hm : m ≠ 3) (hf : bfOk f = true) (hg : glB c.sc (bfName f) = true) (h : PA X es' (tXs Γ n T (bfM f) es)) (h1 : es' ≠ []) (h2 : es'.any isStar = false) : PE X (.Call (.Name (bfName f) q) es' [] p) (tE Γ n T m (.blt f es)) := by
  cases es' with
  | nil => exact absurd rfl h1
  | cons e es' =>
  obtain ⟨s1, s2⟩ := starF w h2
  have fin : ∀ {e'}, PE X e' (tCB (rBlt m f) (tXs Γ n T (bfM f) es)) → PE X e' (tE Γ n T m (.blt f es)) := by
    intro e' hp
    refine hp.weak ?_
    rintro σ H Q ⟨S, O, ρ, st, hh⟩
    rw [wpE] at hh
    refine ⟨S, O, ρ, st, wpXs.mono w.mono es ρ (fun ds hd O' H' vs x r => ?_) hh⟩
    obtain ⟨z, e, g⟩ := hd.get
    exact ⟨S, O', ds, z, r, e, g.ext x⟩
  have s1' := star_cons (env := X.env) (es := es') s1
  have s2' := star_any (env := X.env) (pos := p) s2
  cases f with
  | len => exact fin (pe_callB (blt_len m) (w.gl hg) (w.blt _ (by decide)) boot_len h (by decide) (by decide) s1' s2')
  | sum => exact fin (pe_callB (blt_sum w.calm m) (w.gl hg) (w.blt _ (by decide)) PyProof.Rows.boot_sum h (by decide) (by decide) s1' s2')
  | max1 => exact fin (pe_callB (blt_max w.calm w.hu m) (w.gl hg) (w.blt _ (by decide)) PyProof.Rows.boot_max h (by decide) (by decide) s1' s2')
  | min1 => exact fin (pe_callB (blt_min w.calm w.hu m) (w.gl hg) (w.blt _ (by decide)) PyProof.Rows.boot_min h (by decide) (by decide) s1' s2')
  | max2 => exact fin (pe_callB (blt_max2 w.calm m) (w.gl hg) (w.blt _ (by decide)) PyProof.Rows.boot_max h (by decide) (by decide) s1' s2')
  | min2 => exact fin (pe_callB (blt_min2 w.calm m) (w.gl hg) (w.blt _ (by decide)) PyProof.Rows.boot_min h (by decide) (by decide) s1' s2')
  | abs => exact fin (pe_callB (blt_abs m) (w.gl hg) (w.blt _ (by decide)) PyProof.Rows.boot_abs h (by decide) (by decide) s1' s2')
  | int => exact fin (pe_callTy (blt_int m) (w.gl hg) (w.blt _ (by decide)) PyProof.Rows.boot_int h (by decide) (by decide) s1' s2')
  | all => exact fin (pe_callB (blt_all w.calm m) (w.gl hg) (w.blt _ (by decide)) PyProof.Rows.boot_all h (by decide) (by decide) s1' s2')
  | any => exact fin (pe_callB (blt_any w.calm m) (w.gl hg) (w.blt _ (by decide)) PyProof.Rows.boot_any h (by decide) (by decide) s1' s2')
  | tuple => exact fin (pe_callTy (blt_tuple m) (w.gl hg) (w.blt _ (by decide)) PyProof.Rows.boot_tuple h (by decide) (by decide) s1' s2')
  | list => exact fin (pe_callTy (blt_list w.calm m hm) (w.gl hg) (w.blt _ (by decide)) PyProof.Rows.boot_list h (by decide) (by decide) s1' s2')
  | sorted => exact fin (pe_callB (blt_sorted w.calm w.hu m hm) (w.gl hg) (w.blt _ (by decide)) PyProof.Rows.boot_sorted h (by decide) (by decide) s1' s2')
  | dictT => exact fin (pe_callTy (blt_dictT w.calm w.hu m hm) (w.gl hg) (w.blt _ (by decide)) PyProof.Rows.boot_dict h (by decide) (by decide) s1' s2')
  | dictK => cases hf
theorem sn_isin {a : Ex} {kk : Cl} {a' : Expr} {q r p : Pos} (hg : glB c.sc "isinstance" = true) (hg2 : glB c.sc (clName kk) = true) (hs : isStar a' = false) (ha : PE X a' (tE Γ n T 4 a)) : PE X (.Call (.Name "isinstance" q) [a', .Name (clName kk) r] [] p) (tE Γ n T m (.isin a kk)) := by
  have hb : PE X (.Name (clName kk) r) (tC (.ty (clTy kk))) := by
    refine pe_bltn (w.gl hg2) (w.blt _ ?_) (clBoot kk) rfl ?_ ?_ <;> cases kk <;> decide
  refine (pe_callB (call_isD kk) (w.gl hg) (w.blt _ (by decide)) PyProof.Rows.boot_isinstance (pa_cons ha (pa_cons hb pa_nil rfl) (star_cons hs)) (by decide) (by decide) (star_cons hs) rfl).weak ?_
  rintro σ H Q ⟨S, O, ρ, st, h⟩
  rw [wpE] at h
  refine ⟨S, O, ρ, st, wpE.mono w.mono a ρ (fun x hx => Ext.res fun O1 H1 v1 x1 r1 => ?_) h⟩
  obtain ⟨b, e, g⟩ := op_map w hx
  exact ⟨v1, S, O1, x, b, rfl, r1.read, e, (g.ext x1).scal (fun _ _ _ => .bl _) rfl⟩
/-- x[text] of the drawing source -/
theorem sn_sg {i : Nat} {kk : Sk} {x : Str} {q r p : Pos} {j : Nat} (hv : varB c i x = true) (ht : tg T i = 0) : PE X (.Subscript (.Name x q) (.Constant (.str (skName kk)) j r) p) (tE Γ n T m (.sg i kk)) := by
  obtain ⟨h1, h2, h3, h4⟩ := w.name hv
  refine (pe_ix (ix_dK w.hu) (pe_var h1 h2 h3 h4) pe_str (frm_ix rfl)).weak ?_
  rintro σ H Q ⟨S, O, ρ, st, h⟩
  rw [wpE] at h
  obtain ⟨e, h⟩ := h
  have e' : ρ[i]? = some (some .src) := by
    rw [List.getD_eq_getElem?_getD] at e
    cases hx : ρ[i]? with
    | none => rw [hx] at e; cases e
    | some o => rw [hx] at e; simp at e; rw [e]
  obtain ⟨v, g1, g2, g3, g4, g5⟩ := st.val e'
  cases g2
  obtain ⟨a1, a2, a3, cc, l, mi, t, a4, a5, a6⟩ := st.src
  refine ⟨_, g1, _, _, .inr (skName kk), rfl, rfl, .inl a4, ?_⟩
  have go : ∀ z : Int, Res m S O H Q (.int z) → Q (.int z) H := fun z q => q O H _ Ext.refl (RepM.flat (.int z) rfl) (NewR.flat rfl)
  cases kk
  · exact ⟨_, rfl, go l (h l)⟩
  · exact ⟨_, rfl, go mi (h mi)⟩
  · exact ⟨_, rfl, go t (h t)⟩
theorem sn_mth {mt : Mt} {o : Ex} {es : Xs} {o' : Expr} {es' : List Expr} {ap p : Pos} (hm : m = 0 ∨ m = 1 ∨ m = 4) (hl : (ap.endLine == p.line) = true) (hf : frm o' = true) (ho : PE X o' (tE Γ n T (mtBase mt) o)) (h : PA X es' (tXs Γ n T (mtArg mt) es)) (h1 : es' ≠ []) (h2 : es'.any isStar = false) (h5 : es'.length < 5) :
    PE X (.Call (.Attribute o' (mtName mt) ap) es' [] p) (tE Γ n T m (.mth mt o es)) := by
  cases es' with
  | nil => exact absurd rfl h1
  | cons e es' =>
  obtain ⟨s1, s2⟩ := starF w h2
  refine (pe_mth w.hu hm ho h (frm_base hf) ?_ hl (star_cons s1) (star_any s2)).weak ?_
  · rw [star_all h2]
    have e0 : backToKw p (keywordEach [] X.env) = [] := rfl
    rw [e0]
    simp at h5 ⊢
    omega
  · rintro σ H Q ⟨S, O, ρ, st, hh⟩
    rw [wpE] at hh
    refine ⟨S, O, ρ, st, wpE.mono w.mono o ρ (fun x hx => Ext.res fun O1 H1 v1 x1 r1 => ?_) hh⟩
    refine ⟨S, O1, x, r1, hx.1, S, O1, ρ, st.ext x1, wpXs.mono w.mono es ρ (fun ds hd O2 H2 vs x2 r2 => ?_) hx.2⟩
    obtain ⟨z, e, g⟩ := hd.get
    exact ⟨S, O2, ds, z, r1.ext x2, r2, e, g.ext (x1.trans x2)⟩
/-! and, or -/
theorem sn_and1 {a : Ex} {s : Bool} {e : Expr} {p : Pos} (ha : PE X e (tE Γ n T 4 a)) (ht : PT X e (tT Γ n T a)) : PW X (.BoolOp .And [e] p) (tAl Γ n T (.cons s a .nil)) ∧ PE X (.BoolOp .And [e] p) (tV (tAl Γ n T (.cons s a .nil))) := by
  refine ⟨(pw_and1 ht).weak ?_, (pe_one ha).weak ?_⟩
  · rintro σ H Q ⟨S, O, ρ, st, h⟩
    rw [wpAnd] at h
    refine ⟨S, O, ρ, st, wpE.mono w.mono a ρ (fun x hx => ?_) h⟩
    obtain ⟨b, rfl, g⟩ := dB_get hx
    cases b
    · exact g
    · rw [if_pos rfl, wpAnd] at g; exact g
  · rintro σ H Q ⟨S, O, ρ, st, h⟩
    rw [wpAnd] at h
    refine ⟨S, O, ρ, st, wpE.mono w.mono a ρ (fun x hx => Ext.res fun O1 H1 v1 x1 r1 => ?_) h⟩
    obtain ⟨b, rfl, g⟩ := dB_get hx
    obtain rfl := rep_bl r1
    cases b
    · exact g O1 H1 x1
    · rw [if_pos rfl, wpAnd] at g; exact g O1 H1 x1
theorem sn_and2 {a : Ex} {es : Xs} {s : Bool} {e e2 : Expr} {es' : List Expr} {p : Pos} (ha : PE X e (tE Γ n T 4 a)) (ht : PT X e (tT Γ n T a)) (hw : PW X (.BoolOp .And (e2 :: es') p) (tAl Γ n T es)) (hp : PE X (.BoolOp .And (e2 :: es') p) (tV (tAl Γ n T es))) :
    PW X (.BoolOp .And (e :: e2 :: es') p) (tAl Γ n T (.cons s a es)) ∧ PE X (.BoolOp .And (e :: e2 :: es') p) (tV (tAl Γ n T (.cons s a es))) := by
  refine ⟨(pw_and ht hw).weak ?_, (pe_and ha hp).weak ?_⟩
  · rintro σ H Q ⟨S, O, ρ, st, h⟩
    rw [wpAnd] at h
    refine ⟨S, O, ρ, st, wpE.mono w.mono a ρ (fun x hx => ?_) h⟩
    obtain ⟨b, rfl, g⟩ := dB_get hx
    intro O1 H1 x1
    cases b
    · exact g O1 H1 x1
    · rw [if_pos rfl] at g ⊢
      exact ⟨S, O1, ρ, st.ext x1, wpAnd.mono w.mono es ρ (fun b hb O2 H2 x2 => hb O2 H2 (x1.trans x2)) g⟩
  · rintro σ H Q ⟨S, O, ρ, st, h⟩
    rw [wpAnd] at h
    refine ⟨S, O, ρ, st, wpE.mono w.mono a ρ (fun x hx => Ext.res fun O1 H1 v1 x1 r1 => ?_) h⟩
    obtain ⟨b, rfl, g⟩ := dB_get hx
    obtain rfl := rep_bl r1
    refine ⟨b, rfl, ?_⟩
    cases b
    · exact g O1 H1 x1
    · rw [if_pos rfl] at g ⊢
      exact ⟨S, O1, ρ, st.ext x1, wpAnd.mono w.mono es ρ (fun b hb O2 H2 x2 => hb O2 H2 (x1.trans x2)) g⟩
theorem sn_or1 {a : Ex} {s : Bool} {e : Expr} {p : Pos} (ha : PE X e (tE Γ n T 4 a)) (ht : PT X e (tT Γ n T a)) : PW X (.BoolOp .Or [e] p) (tOl Γ n T (.cons s a .nil)) ∧ PE X (.BoolOp .Or [e] p) (tV (tOl Γ n T (.cons s a .nil))) := by
  refine ⟨(pw_or1 ht).weak ?_, (pe_one ha).weak ?_⟩
  · rintro σ H Q ⟨S, O, ρ, st, h⟩
    rw [wpOr] at h
    refine ⟨S, O, ρ, st, wpE.mono w.mono a ρ (fun x hx => ?_) h⟩
    obtain ⟨b, rfl, g⟩ := dB_get hx
    cases b
    · rw [if_neg (by simp), wpOr] at g; exact g
    · exact g
  · rintro σ H Q ⟨S, O, ρ, st, h⟩
    rw [wpOr] at h
    refine ⟨S, O, ρ, st, wpE.mono w.mono a ρ (fun x hx => Ext.res fun O1 H1 v1 x1 r1 => ?_) h⟩
    obtain ⟨b, rfl, g⟩ := dB_get hx
    obtain rfl := rep_bl r1
    cases b
    · rw [if_neg (by simp), wpOr] at g; exact g O1 H1 x1
    · exact g O1 H1 x1
theorem sn_or2 {a : Ex} {es : Xs} {s : Bool} {e e2 : Expr} {es' : List Expr} {p : Pos} (ha : PE X e (tE Γ n T 4 a)) (ht : PT X e (tT Γ n T a)) (hw : PW X (.BoolOp .Or (e2 :: es') p) (tOl Γ n T es)) (hp : PE X (.BoolOp .Or (e2 :: es') p) (tV (tOl Γ n T es))) :
    PW X (.BoolOp .Or (e :: e2 :: es') p) (tOl Γ n T (.cons s a es)) ∧ PE X (.BoolOp .Or (e :: e2 :: es') p) (tV (tOl Γ n T (.cons s a es))) := by
  refine ⟨(pw_or ht hw).weak ?_, (pe_or ha hp).weak ?_⟩
  · rintro σ H Q ⟨S, O, ρ, st, h⟩
    rw [wpOr] at h
    refine ⟨S, O, ρ, st, wpE.mono w.mono a ρ (fun x hx => ?_) h⟩
    obtain ⟨b, rfl, g⟩ := dB_get hx
    intro O1 H1 x1
    cases b
    · rw [if_neg (by simp)] at g ⊢
      exact ⟨S, O1, ρ, st.ext x1, wpOr.mono w.mono es ρ (fun b hb O2 H2 x2 => hb O2 H2 (x1.trans x2)) g⟩
    · exact g O1 H1 x1
  · rintro σ H Q ⟨S, O, ρ, st, h⟩
    rw [wpOr] at h
    refine ⟨S, O, ρ, st, wpE.mono w.mono a ρ (fun x hx => Ext.res fun O1 H1 v1 x1 r1 => ?_) h⟩
    obtain ⟨b, rfl, g⟩ := dB_get hx
    obtain rfl := rep_bl r1
    refine ⟨b, rfl, ?_⟩
    cases b
    · rw [if_neg (by simp)] at g ⊢
      exact ⟨S, O1, ρ, st.ext x1, wpOr.mono w.mono es ρ (fun b hb O2 H2 x2 => hb O2 H2 (x1.trans x2)) g⟩
    · exact g O1 H1 x1
theorem sn_andV {es : Xs} {e : Expr} (h : PE X e (tV (tAl Γ n T es))) : PE X e (tE Γ n T m (.and es)) := by
  refine h.weak ?_
  rintro σ H Q ⟨S, O, ρ, st, hh⟩
  rw [wpE] at hh
  exact ⟨S, O, ρ, st, wpAnd.mono w.mono es ρ (fun b hb O1 H1 x1 => (hb.ext x1).scal (fun _ _ _ => .bl _) rfl) hh⟩
theorem sn_orV {es : Xs} {e : Expr} (h : PE X e (tV (tOl Γ n T es))) : PE X e (tE Γ n T m (.or es)) := by
  refine h.weak ?_
  rintro σ H Q ⟨S, O, ρ, st, hh⟩
  rw [wpE] at hh
  exact ⟨S, O, ρ, st, wpOr.mono w.mono es ρ (fun b hb O1 H1 x1 => (hb.ext x1).scal (fun _ _ _ => .bl _) rfl) hh⟩
theorem sn_andT {es : Xs} {e : Expr} (h : PW X e (tAl Γ n T es)) : PT X e (tT Γ n T (.and es)) := by
  refine h.pt.weak ?_
  rintro σ H Q ⟨S, O, ρ, st, hh⟩
  rw [wpE] at hh
  exact ⟨S, O, ρ, st, hh⟩
theorem sn_orT {es : Xs} {e : Expr} (h : PW X e (tOl Γ n T es)) : PT X e (tT Γ n T (.or es)) := by
  refine h.pt.weak ?_
  rintro σ H Q ⟨S, O, ρ, st, hh⟩
  rw [wpE] at hh
  exact ⟨S, O, ρ, st, hh⟩
theorem sn_iteT {t a b : Ex} {t' l r : Expr} {p : Pos} (ht : PT X t' (tT Γ n T t)) (ha : PT X l (tT Γ n T a)) (hb : PT X r (tT Γ n T b)) : PT X (.IfExp t' l r p) (tT Γ n T (.ite t a b)) := by
  refine ⟨fun pins s σ H Q I ⟨S, O, ρ, st, h⟩ => ?_⟩
  rw [wpE] at h
  show wpAny _ _ (isTrue t' X.env (eval t' X.env) >>= fun z => if z = true then isTrue l X.env (eval l X.env) else isTrue r X.env (eval r X.env)) _ _ _
  refine wpAny_bind (thn (ht.run pins s σ H (fun z H' => if z = true then tT Γ n T a σ H' Q else tT Γ n T b σ H' Q) I ?_) fun z s1 ⟨H1, I1, q⟩ => ?_)
  · refine ⟨S, O, ρ, st, wpE.mono w.mono t ρ (fun x hx => ?_) h⟩
    obtain ⟨z, rfl, g⟩ := dB_get hx
    intro O1 H1 x1
    have go : ∀ {ir : Ex}, wpE Γ ir ρ (dB fun b => ∀ O' H', Ext S O H O' H' → Q b H') → tT Γ n T ir σ H1 Q := fun {ir} g => ⟨S, O1, ρ, st.ext x1, wpE.mono w.mono ir ρ (fun y hy => by
      obtain ⟨b, rfl, gg⟩ := dB_get hy
      exact fun O2 H2 x2 => gg O2 H2 (x1.trans x2)) g⟩
    cases z
    · rw [if_neg (by simp)] at g ⊢
      exact go g
    · rw [if_pos rfl] at g ⊢
      exact go g
  · cases z
    · exact hb.run pins s1 σ H1 Q I1 q
    · exact ha.run pins s1 σ H1 Q I1 q
end
end DL
/-! DL, part Z: iterators and comprehensions. -/
namespace DL
open PySem PySem.Spec PyProof.Rows L2 PySem.W
/-- the dict is locked -/
def LkI : It → L2.St → Hp → Prop
  | .items (.v j), σ, H => ∃ d o u, σ[j]? = some (some (.ref d)) ∧ H d = some (.frz o u)
  | .items _, _, _ => False
  | .keys (.v j), σ, H => ∃ d o u, σ[j]? = some (some (.ref d)) ∧ H d = some (.frz o u)
  | .keys _, _, _ => False
  | _, _, _ => True
def tI (Γ : Gam) (n : Nat) (T : Tags) (κ : Nat) (it : It) : TI := fun σ H R => LkI it σ H ∧ ∃ S O ρ, StE S n T O ρ σ H ∧ wpIt Γ it ρ fun ds => ∀ O' H' J, Ext S O H O' H' → Wd S (Pk κ S O' H') J ds → R J H'
def tRg (Γ : Gam) (n : Nat) (T : Tags) (it : It) : TRg := fun σ H Q => ∃ S O ρ, StE S n T O ρ σ H ∧ wpIt Γ it ρ fun ds => ∀ O' H' a c nn, Ext S O H O' H' → ds = rangeD a c nn → nn ≤ sizeLine → Q a c nn H'
section
variable {S : Sx} {O : Lab} {H : Hp}
theorem ms1 {m : Nat} {i : Int} {vs : List V} (h : RepMs m S O H [.int i] vs) : vs = [.int i] := by
  obtain ⟨v, rfl, r⟩ := h.one
  rw [rep_int r]
theorem ms2 {m : Nat} {i j : Int} {vs : List V} (h : RepMs m S O H [.int i, .int j] vs) : vs = [.int i, .int j] := by
  obtain ⟨v, u, rfl, r, r'⟩ := h.two
  rw [rep_int r, rep_int r']
theorem ms3 {m : Nat} {i j l : Int} {vs : List V} (h : RepMs m S O H [.int i, .int j, .int l] vs) : vs = [.int i, .int j, .int l] := by
  cases h with
  | cons r t => rw [ms2 t, rep_int r]
theorem rg_up {a b : Int} (ha : smallI a) (hb : smallI b) : RgC a b 1 (b - a).toNat ∧ (b - a).toNat ≤ 2 ^ 24 ∧ (b - a).toNat ≤ sizeLine := by
  unfold smallI at ha hb
  have := sizeLine_eq
  exact ⟨⟨by decide, by decide, small_one (by omega) (by omega) (by omega) (by omega), rangeSize_nat a b⟩, by omega, by omega⟩
theorem rg_down {a b : Int} (ha : smallI a) (hb : smallI b) : RgC a b (-1) (a - b).toNat ∧ (a - b).toNat ≤ 2 ^ 24 ∧ (a - b).toNat ≤ sizeLine := by
  unfold smallI at ha hb
  have := sizeLine_eq
  exact ⟨RgC.neg (by omega) (by omega) (by omega) (by omega), by omega, by omega⟩
end
section
variable {X : Cx} {Γ : Gam} {F : Str → Bool} {k : Nat} {c : SC} (w : WOk X Γ F k c) {n : Nat} {T : Tags} {m κ : Nat} {tg : Expr}
include w
theorem sn_rng1 {a : Ex} {a' : Expr} {q p : Pos} (hg : glB c.sc "range" = true) (hs : isStar a' = false) (ha : PE X a' (tE Γ n T 4 a)) : PRC X (.Call (.Name "range" q) [a'] [] p) (tRg Γ n T (.rng1 a)) := by
  intro pins s σ H Q I ⟨S, O, ρ, st, h⟩
  refine prc_any (w.gl hg) (w.blt _ (by decide)) (sn_xcons w (es := .nil) hs ha (sn_xnil w)) (star_cons hs) rfl pins s σ H Q I ?_
  rw [wpIt] at h
  refine ⟨S, O, ρ, st, ?_⟩
  rw [wpXs]
  refine wpE.mono w.mono a ρ (fun x hx => ?_) h
  obtain ⟨i, rfl, sm, g⟩ := dI_get hx
  rw [wpXs]
  intro O' H' vs x r
  obtain rfl := ms1 r
  obtain ⟨r1, r2, r3⟩ := rg_up (a := 0) (by unfold smallI; decide) sm
  rw [Int.sub_zero] at r1 r2 r3
  exact .inl ⟨i, 1, i.toNat, rfl, rfl, r1, r2, g O' H' 0 1 _ x rfl r3⟩
theorem sn_rng2 {a b : Ex} {a' b' : Expr} {q p : Pos} (hg : glB c.sc "range" = true) (hs : isStar a' = false) (hs' : isStar b' = false) (ha : PE X a' (tE Γ n T 4 a)) (hb : PE X b' (tE Γ n T 4 b)) : PRC X (.Call (.Name "range" q) [a', b'] [] p) (tRg Γ n T (.rng2 a b)) := by
  intro pins s σ H Q I ⟨S, O, ρ, st, h⟩
  refine prc_any (w.gl hg) (w.blt _ (by decide)) (sn_xcons w (es := .cons false b .nil) hs ha (sn_xcons w (es := .nil) hs' hb (sn_xnil w))) (star_cons hs) (star_any (by simp [hs'])) pins s σ H Q I ?_
  rw [wpIt] at h
  refine ⟨S, O, ρ, st, ?_⟩
  rw [wpXs]
  refine wpE.mono w.mono a ρ (fun x hx => ?_) h
  obtain ⟨i, rfl, hx⟩ := dI_get hx
  rw [wpXs]
  refine wpE.mono w.mono b ρ (fun y hy => ?_) hx
  obtain ⟨j, rfl, s1, s2, g⟩ := dI_get hy
  rw [wpXs]
  intro O' H' vs x r
  obtain rfl := ms2 r
  obtain ⟨r1, r2, r3⟩ := rg_up s1 s2
  exact .inr (.inl ⟨i, j, _, rfl, r1, r2, g O' H' i 1 _ x rfl r3⟩)
theorem sn_rng3 {a b d : Ex} {a' b' d' : Expr} {q p : Pos} (hg : glB c.sc "range" = true) (hs : isStar a' = false) (hs' : isStar b' = false) (hs'' : isStar d' = false) (ha : PE X a' (tE Γ n T 4 a)) (hb : PE X b' (tE Γ n T 4 b)) (hd : PE X d' (tE Γ n T 4 d)) : PRC X (.Call (.Name "range" q) [a', b', d'] [] p) (tRg Γ n T (.rng3 a b d)) := by
  intro pins s σ H Q I ⟨S, O, ρ, st, h⟩
  refine prc_any (w.gl hg) (w.blt _ (by decide)) (sn_xcons w (es := .cons false b (.cons false d .nil)) hs ha (sn_xcons w (es := .cons false d .nil) hs' hb (sn_xcons w (es := .nil) hs'' hd (sn_xnil w)))) (star_cons hs) (star_any (by simp [hs', hs''])) pins s σ H Q I ?_
  rw [wpIt] at h
  refine ⟨S, O, ρ, st, ?_⟩
  rw [wpXs]
  refine wpE.mono w.mono a ρ (fun x hx => ?_) h
  obtain ⟨i, rfl, hx⟩ := dI_get hx
  rw [wpXs]
  refine wpE.mono w.mono b ρ (fun y hy => ?_) hx
  obtain ⟨j, rfl, hy⟩ := dI_get hy
  rw [wpXs]
  refine wpE.mono w.mono d ρ (fun z hz => ?_) hy
  obtain ⟨l, rfl, s1, s2, e, g⟩ := dI_get hz
  subst e
  rw [wpXs]
  intro O' H' vs x r
  obtain rfl := ms3 r
  obtain ⟨r1, r2, r3⟩ := rg_down s1 s2
  exact .inr (.inr ⟨i, j, -1, _, rfl, r1, r2, g O' H' i (-1) _ x rfl r3⟩)
/-- walking a range -/
theorem sn_rngI {it : It} {e : Expr} (h : PRC X e (tRg Γ n T it)) : PI X tg e (tI Γ n T κ it) := by
  refine (pi_rc h).weak ?_
  rintro σ H R ⟨_, S, O, ρ, st, hh⟩
  refine ⟨S, O, ρ, st, wpIt.mono w.mono it ρ (fun ds g O' H' a c' nn x e hn => ?_) hh⟩
  subst e
  exact g O' H' _ x (wd_range hn)
theorem sn_seqL {it : It} {e : Expr} {q p : Pos} (hm : m ≠ 3) (hg : glB c.sc "list" = true) (hs : isStar e = false) (h : PRC X e (tRg Γ n T it)) : PE X (.Call (.Name "list" q) [e] [] p) (tE Γ n T m (.seq .lst it)) := by
  refine (pe_listC w.calm (w.gl hg) (w.blt _ (by decide)) h (star_cons hs)).weak ?_
  rintro σ H Q ⟨S, O, ρ, st, hh⟩
  rw [wpE] at hh
  refine ⟨S, O, ρ, st, wpIt.mono w.mono it ρ (fun ds g O' H' a c' nn x e hn => ?_) hh⟩
  subst e
  have e : (rangeD a c' nn).map unPr = rangeD a c' nn := by
    unfold rangeD
    rw [List.map_map]
    rfl
  rw [e] at g
  exact ((show Res m S O H Q (.lst (rangeD a c' nn)) from g).ext x).lst hm (rcV_rep a c' nn) (by rw [rcV_length]; exact hn)
theorem sn_seqT {it : It} {e : Expr} {q p : Pos} (hg : glB c.sc "tuple" = true) (hs : isStar e = false) (h : PRC X e (tRg Γ n T it)) : PE X (.Call (.Name "tuple" q) [e] [] p) (tE Γ n T m (.seq .tup it)) := by
  refine (pe_tupC w.calm (w.gl hg) (w.blt _ (by decide)) h (star_cons hs)).weak ?_
  rintro σ H Q ⟨S, O, ρ, st, hh⟩
  rw [wpE] at hh
  refine ⟨S, O, ρ, st, wpIt.mono w.mono it ρ (fun ds g O' H' a c' nn x e hn => ?_) hh⟩
  subst e
  have e : (rangeD a c' nn).map unPr = rangeD a c' nn := by
    unfold rangeD
    rw [List.map_map]
    rfl
  rw [e] at g
  exact ((show Res m S O H Q (.tup (rangeD a c' nn)) from g).ext x).tup (rcV_rep a c' nn) (by rw [rcV_length]; exact hn)
theorem sn_seqS {a : Ex} {e : Expr} {q ap cp p : Pos} (hm : m ≠ 3) (hg : glB c.sc "sorted" = true) (hf : frm e = true) (hl : (ap.endLine == cp.line) = true) (h : PE X e (tE Γ n T 1 a)) : PE X (.Call (.Name "sorted" q) [.Call (.Attribute e "items" ap) [] [] cp] [] p) (tE Γ n T m (.seq .srt (.items a))) := by
  refine (pe_sortItems w.calm w.hu hm (w.gl hg) (w.blt _ (by decide)) h (frm_base hf) hl).weak ?_
  rintro σ H Q ⟨S, O, ρ, st, hh⟩
  rw [wpE, wpIt] at hh
  refine ⟨S, O, ρ, st, wpE.mono w.mono a ρ (fun x hx => Ext.res fun O1 H1 v1 x1 r1 => ?_) hh⟩
  cases x with
  | dK kvs =>
    obtain ⟨z, e, g⟩ := Opt.get hx
    exact ⟨S, O1, _, _, z, r1, rfl, e, g.ext x1⟩
  | dT kvs =>
    obtain ⟨z, e, g⟩ := Opt.get hx
    exact ⟨S, O1, _, _, z, r1, rfl, e, g.ext x1⟩
  | _ => exact hx.elim
/-- walking a list or a tuple -/
theorem cont_of {S : Sx} {O : Lab} {H : Hp} {xs : List D} {v : V} (hκ : κ = 0 ∨ κ = 1) (r : RepM κ S O H (.lst xs) v) : ∃ p vs, v = .ref p ∧ O p ≠ some 0 ∧ (κ = 0 → O p = none) ∧ H p = some (.lst vs) ∧ vs.length ≤ sizeLine ∧ RepL S.ds (LV O) H xs vs := by
  rcases hκ with rfl | rfl
  · cases (show Rep S.ds (LV O) H (.lst xs) v from r) with
    | lst l0 g z i => exact ⟨_, _, rfl, by rw [show O _ = none from l0]; simp, fun _ => l0, g, z, i⟩
  · obtain ⟨p, vs, rfl, n, g, z, i⟩ := (show Top S O H (.lst xs) v from r)
    exact ⟨p, vs, rfl, n, (fun z => by cases z), g, z, i⟩
theorem cont_tup {S : Sx} {O : Lab} {H : Hp} {xs : List D} {v : V} (hκ : κ = 0 ∨ κ = 1) (r : RepM κ S O H (.tup xs) v) : ∃ p vs, v = .ref p ∧ GT H p vs ∧ vs.length ≤ sizeLine ∧ RepL S.ds (LV O) H xs vs := by
  have r' : Rep S.ds (LV O) H (.tup xs) v := by rcases hκ with rfl | rfl <;> exact r
  cases r' with
  | tup g z i => exact ⟨_, _, rfl, g, z, i⟩
theorem sn_Iseq {a : Ex} {e : Expr} (hκ : κ = 0 ∨ κ = 1) (h : PE X e (tE Γ n T κ a)) : PI X tg e (tI Γ n T κ (.seq a)) := by
  refine (pi_seqA h).weak ?_
  rintro σ H R ⟨_, S, O, ρ, st, hh⟩
  rw [wpIt] at hh
  refine ⟨S, O, ρ, st, wpE.mono w.mono a ρ (fun x hx => Ext.res fun O1 H1 v1 x1 r1 => ?_) hh⟩
  cases x with
  | lst xs =>
    obtain ⟨p, vs, rfl, g1, g2, g3, g4, g5⟩ := cont_of w hκ r1
    exact ⟨p, rfl, .inl ⟨vs, SqL.of g3, hx O1 H1 _ x1 (wd_lst g3 g1 g2 g4 g5)⟩⟩
  | tup xs =>
    obtain ⟨p, vs, rfl, g3, g4, g5⟩ := cont_tup w hκ r1
    exact ⟨p, rfl, .inr ⟨vs, g3.sq, hx O1 H1 _ x1 (wd_tup g3 g4 g5)⟩⟩
  | _ => exact hx.elim
theorem sn_Ienum {a : Ex} {e : Expr} {q p tp : Pos} {ts : List Expr} {kk : Nat} (hκ : κ = 0 ∨ κ = 1) (hg : glB c.sc "enumerate" = true) (hs : isStar e = false) (h : PE X e (tE Γ n T κ a)) : PI X (.Tuple ts kk tp) (.Call (.Name "enumerate" q) [e] [] p) (tI Γ n T κ (.enum a)) := by
  refine (pi_enumA (w.gl hg) (w.blt _ (by decide)) (pa_cons h pa_nil (star_cons hs)) (star_cons hs)).weak ?_
  rintro σ H R ⟨_, S, O, ρ, st, hh⟩
  rw [wpIt] at hh
  refine ⟨S, O, ρ, st, wpE.mono w.mono a ρ (fun x hx => Ext.res fun O1 H1 v1 x1 r1 => ?_) hh⟩
  cases x with
  | lst xs =>
    obtain ⟨p, vs, rfl, g1, g2, g3, g4, g5⟩ := cont_of w hκ r1
    exact ⟨p, rfl, .inl ⟨vs, SqL.of g3, hx O1 H1 _ x1 (wd_enumL g3 g1 g2 g4 g5)⟩⟩
  | tup xs =>
    obtain ⟨p, vs, rfl, g3, g4, g5⟩ := cont_tup w hκ r1
    exact ⟨p, rfl, .inr ⟨vs, g3.sq, hx O1 H1 _ x1 (wd_enumT g3 g4 g5)⟩⟩
  | _ => exact hx.elim
theorem sn_Izip {a b : Ex} {e e2 : Expr} {q p tp : Pos} {ts : List Expr} {kk : Nat} (hκ : κ = 0 ∨ κ = 1) (hg : glB c.sc "zip" = true) (hs : isStar e = false) (hs2 : isStar e2 = false) (h : PE X e (tE Γ n T κ a)) (h2 : PE X e2 (tE Γ n T κ b)) : PI X (.Tuple ts kk tp) (.Call (.Name "zip" q) [e, e2] [] p) (tI Γ n T κ (.zip a b)) := by
  refine (pi_zipB (w.gl hg) (w.blt _ (by decide)) (pa_cons h (pa_cons h2 pa_nil (star_cons hs2)) (star_cons hs)) (star_cons hs) (star_any (by simp [hs2]))).weak ?_
  rintro σ H R ⟨_, S, O, ρ, st, hh⟩
  rw [wpIt] at hh
  refine ⟨S, O, ρ, st, wpE.mono w.mono a ρ (fun x hx => Ext.res fun O1 H1 v1 x1 r1 => ?_) hh⟩
  refine ⟨S, O1, ρ, st.ext x1, wpE.mono w.mono b ρ (fun y hy => Ext.res fun O2 H2 v2 x2 r2 => ?_) hx⟩
  unfold zipD at hy
  cases x with
  | lst xs =>
    obtain ⟨p, vs, rfl, g1, g2, g3, g4, g5⟩ := cont_of w hκ (r1.ext x2)
    cases y with
    | lst ys =>
      obtain ⟨p', vs', rfl, g1', g2', g3', g4', g5'⟩ := cont_of w hκ r2
      exact ⟨false, false, p, p', vs, vs', rfl, SqL.of g3, SqL.of g3', hy O2 H2 _ (x1.trans x2) (wd_zipB (fun O' H' q => SqL.of (q.lst g3 g1 g2)) (fun O' H' q => SqL.of (q.lst g3' g1' g2')) g4 g5 g4' g5')⟩
    | tup ys =>
      obtain ⟨p', vs', rfl, g3', g4', g5'⟩ := cont_tup w hκ r2
      exact ⟨false, true, p, p', vs, vs', rfl, SqL.of g3, g3'.sq, hy O2 H2 _ (x1.trans x2) (wd_zipB (fun O' H' q => SqL.of (q.lst g3 g1 g2)) (fun O' H' q => (q.gt g3').sq) g4 g5 g4' g5')⟩
    | _ => exact hy.elim
  | tup xs =>
    obtain ⟨p, vs, rfl, g3, g4, g5⟩ := cont_tup w hκ (r1.ext x2)
    cases y with
    | lst ys =>
      obtain ⟨p', vs', rfl, g1', g2', g3', g4', g5'⟩ := cont_of w hκ r2
      exact ⟨true, false, p, p', vs, vs', rfl, g3.sq, SqL.of g3', hy O2 H2 _ (x1.trans x2) (wd_zipB (fun O' H' q => (q.gt g3).sq) (fun O' H' q => SqL.of (q.lst g3' g1' g2')) g4 g5 g4' g5')⟩
    | tup ys =>
      obtain ⟨p', vs', rfl, g3', g4', g5'⟩ := cont_tup w hκ r2
      exact ⟨true, true, p, p', vs, vs', rfl, g3.sq, g3'.sq, hy O2 H2 _ (x1.trans x2) (wd_zipB (fun O' H' q => (q.gt g3).sq) (fun O' H' q => (q.gt g3').sq) g4 g5 g4' g5')⟩
    | _ => exact hy.elim
  | _ => exact hy.elim
theorem sn_Iitems {j : Nat} {x : Str} {xp ap cp tp : Pos} {ts : List Expr} {kk : Nat} (hκ : κ = 0 ∨ κ = 1) (hv : varB c j x = true) (hok : okE F T κ (.v j) = true) (hl : (ap.endLine == cp.line) = true) : PI X (.Tuple ts kk tp) (.Call (.Attribute (.Name x xp) "items" ap) [] [] cp) (tI Γ n T κ (.items (.v j))) := by
  obtain ⟨h1, h2, h3, h4⟩ := w.name hv
  refine (pi_itemsA (pe_var h1 h2 h3 h4) rfl hl).weak ?_
  rintro σ H R ⟨⟨d, o, u, e1, e2⟩, S, O, ρ, st, hh⟩
  rw [wpIt, wpE] at hh
  obtain ⟨dd, e, q⟩ := hh.get
  have e' : ρ[j]? = some (some dd) := by
    rw [List.getD_eq_getElem?_getD] at e
    cases hx : ρ[j]? with
    | none => rw [hx] at e; cases e
    | some o => rw [hx] at e; simp at e; rw [e]
  obtain ⟨v, g1, g2, g3, g4, g5⟩ := st.val e'
  rw [e1] at g1
  cases g1
  refine ⟨.ref d, e1, d, o, rfl, ?_⟩
  have r : RepM κ S O H dd (.ref d) := by
    rcases hκ with rfl | rfl
    · unfold okE at hok
      exact g3 (by simpa using hok)
    · unfold okE at hok
      have : DL.tg T j ≤ 1 := of_decide_eq_true hok
      rcases Nat.lt_or_ge (DL.tg T j) 1 with z | z
      · exact (g3 (by omega)).top
      · exact g4 (by omega)
  cases dd with
  | dK kvs =>
    have go : ∀ {vs : List (Key × V)}, Rd H d (.dK vs) → O d ≠ some 0 → (κ = 0 → O d = none) → vs.length ≤ sizeLine → RepK S.ds (LV O) H kvs vs → (∃ kvs, H d = some (.frz o (.dK kvs)) ∧ R (Iti d o kvs) H) := by
      intro vs rd n1 n2 z i
      rcases rd with rd | ⟨o', rd⟩
      · rw [e2] at rd; cases rd
      · rw [e2] at rd
        cases rd
        exact ⟨vs, e2, q O H _ Ext.refl (wd_itemsK e2 n1 n2 z i)⟩
    rcases hκ with rfl | rfl
    · cases (show Rep S.ds (LV O) H (.dK kvs) (.ref d) from r) with
      | dK l0 rd z i => exact .inl (go rd (by rw [show O _ = none from l0]; simp) (fun _ => l0) z i)
    · obtain ⟨p, vs, ep, n1, rd, z, i⟩ := (show Top S O H (.dK kvs) (.ref d) from r)
      cases ep
      exact .inl (go rd n1 (fun z => by cases z) z i)
  | dT kvs =>
    have go : ∀ {vs : List (NestedKey × Addr × V)}, Rd H d (tabO d vs) → O d ≠ some 0 → (κ = 0 → O d = none) → vs.length ≤ sizeLine → RepT S.ds (LV O) H kvs vs → (∃ kvs, H d = some (.frz o (tabO d kvs)) ∧ R (ItiT d o kvs) H) := by
      intro vs rd n1 n2 z i
      rcases rd with rd | ⟨o', rd⟩
      · rw [e2] at rd; cases rd
      · have eo : o' = o := by rw [e2] at rd; cases rd; rfl
        rw [eo] at rd
        exact ⟨vs, rd, q O H _ Ext.refl (wd_itemsT rd n1 n2 z i)⟩
    rcases hκ with rfl | rfl
    · cases (show Rep S.ds (LV O) H (.dT kvs) (.ref d) from r) with
      | dT l0 rd z i => exact .inr (go rd (by rw [show O _ = none from l0]; simp) (fun _ => l0) z i)
    · obtain ⟨p, vs, ep, n1, rd, z, i⟩ := (show Top S O H (.dT kvs) (.ref d) from r)
      cases ep
      exact .inr (go rd n1 (fun z => by cases z) z i)
  | _ => exact q.elim
theorem sn_Ikeys {j : Nat} {x : Str} {xp : Pos} {tgx : Expr} (hκ : κ = 0 ∨ κ = 1) (hv : varB c j x = true) (hok : okE F T κ (.v j) = true) : PI X tgx (.Name x xp) (tI Γ n T κ (.keys (.v j))) := by
  obtain ⟨h1, h2, h3, h4⟩ := w.name hv
  refine (pi_keysA (pe_var h1 h2 h3 h4)).weak ?_
  rintro σ H R ⟨⟨d, o, u, e1, e2⟩, S, O, ρ, st, hh⟩
  rw [wpIt, wpE] at hh
  obtain ⟨dd, e, q⟩ := hh.get
  have e' : ρ[j]? = some (some dd) := by
    rw [List.getD_eq_getElem?_getD] at e
    cases hx : ρ[j]? with
    | none => rw [hx] at e; cases e
    | some o => rw [hx] at e; simp at e; rw [e]
  obtain ⟨v, g1, g2, g3, g4, g5⟩ := st.val e'
  rw [e1] at g1
  cases g1
  refine ⟨.ref d, e1, d, o, rfl, ?_⟩
  have r : RepM κ S O H dd (.ref d) := by
    rcases hκ with rfl | rfl
    · unfold okE at hok
      exact g3 (by simpa using hok)
    · unfold okE at hok
      have : DL.tg T j ≤ 1 := of_decide_eq_true hok
      rcases Nat.lt_or_ge (DL.tg T j) 1 with z | z
      · exact (g3 (by omega)).top
      · exact g4 (by omega)
  cases dd with
  | dK kvs =>
    have go : ∀ {vs : List (Key × V)}, Rd H d (.dK vs) → O d ≠ some 0 → (κ = 0 → O d = none) → vs.length ≤ sizeLine → RepK S.ds (LV O) H kvs vs → (∃ kvs, H d = some (.frz o (.dK kvs)) ∧ R (Itk d o kvs) H) := by
      intro vs rd n1 n2 z i
      rcases rd with rd | ⟨o', rd⟩
      · rw [e2] at rd; cases rd
      · rw [e2] at rd
        cases rd
        exact ⟨vs, e2, q O H _ Ext.refl (wd_keysK e2 n1 n2 z i)⟩
    rcases hκ with rfl | rfl
    · cases (show Rep S.ds (LV O) H (.dK kvs) (.ref d) from r) with
      | dK l0 rd z i => exact .inl (go rd (by rw [show O _ = none from l0]; simp) (fun _ => l0) z i)
    · obtain ⟨p, vs, ep, n1, rd, z, i⟩ := (show Top S O H (.dK kvs) (.ref d) from r)
      cases ep
      exact .inl (go rd n1 (fun z => by cases z) z i)
  | dT kvs =>
    have go : ∀ {vs : List (NestedKey × Addr × V)}, Rd H d (tabO d vs) → O d ≠ some 0 → (κ = 0 → O d = none) → vs.length ≤ sizeLine → RepT S.ds (LV O) H kvs vs → (∃ kvs, H d = some (.frz o (tabO d kvs)) ∧ R (ItkN d o kvs) H) := by
      intro vs rd n1 n2 z i
      rcases rd with rd | ⟨o', rd⟩
      · rw [e2] at rd; cases rd
      · have eo : o' = o := by rw [e2] at rd; cases rd; rfl
        rw [eo] at rd
        exact ⟨vs, rd, q O H _ Ext.refl (wd_keysN rd n1 n2 z i)⟩
    rcases hκ with rfl | rfl
    · cases (show Rep S.ds (LV O) H (.dT kvs) (.ref d) from r) with
      | dT l0 rd z i => exact .inr (go rd (by rw [show O _ = none from l0]; simp) (fun _ => l0) z i)
    · obtain ⟨p, vs, ep, n1, rd, z, i⟩ := (show Top S O H (.dT kvs) (.ref d) from r)
      cases ep
      exact .inr (go rd n1 (fun z => by cases z) z i)
  | _ => exact q.elim
end
end DL
/-! DL, part Za: comprehensions. -/
namespace DL
open PySem PySem.Spec PyProof.Rows L2 PySem.W
theorem wipeD_some {ρ : DEnv} {i : Nat} {x : D} : ∀ {vs : List Nat}, (wipeD ρ vs)[i]? = some (some x) → ρ[i]? = some (some x) ∧ i ∉ vs
  | [], h => ⟨h, by simp⟩
  | v :: vs, h => by
    unfold wipeD at h
    by_cases hi : v = i
    · subst hi
      rw [List.getElem?_set] at h
      simp at h
    · rw [List.getElem?_set_ne hi] at h
      obtain ⟨h1, h2⟩ := wipeD_some h
      exact ⟨h1, fun m => by rcases List.mem_cons.mp m with m | m; exact hi m.symm; exact h2 m⟩
theorem wipeD_length (ρ : DEnv) : ∀ vs : List Nat, (wipeD ρ vs).length = ρ.length
  | [] => rfl
  | v :: vs => by unfold wipeD; rw [List.length_set, wipeD_length ρ vs]
theorem wipe_in {σ : L2.St} {i : Nat} {v : V} : ∀ {vs : List Nat}, i ∈ vs → wipe (σ.set i (some v)) vs = wipe σ vs := by
  intro vs hi
  apply List.ext_getElem?
  intro j
  have l1 := wipe_length (σ.set i (some v)) vs
  have l2 := wipe_length σ vs
  rw [List.length_set] at l1
  by_cases hj : j ∈ vs
  · have go : ∀ (τ : L2.St) (vs : List Nat), j ∈ vs → j < τ.length → (wipe τ vs)[j]? = some none := by
      intro τ vs
      induction vs with
      | nil => intro h; cases h
      | cons a vs ih =>
        intro h hl
        unfold wipe
        by_cases e : a = j
        · subst e
          rw [List.getElem?_set_self (by rw [wipe_length]; exact hl)]
        · rw [List.getElem?_set_ne e]
          exact ih (by rcases List.mem_cons.mp h with z | z; exact absurd z.symm e; exact z) hl
    by_cases hl : j < σ.length
    · rw [go _ _ hj (by rw [List.length_set]; exact hl), go _ _ hj hl]
    · rw [List.getElem?_eq_none (by omega), List.getElem?_eq_none (by omega)]
  · rw [wipe_out hj, wipe_out hj, List.getElem?_set_ne]
    rintro rfl
    exact hj hi
theorem wipe_wipe {σ : L2.St} {vs : List Nat} : wipe (wipe σ vs) vs = wipe σ vs := by
  apply List.ext_getElem?
  intro j
  have l1 := wipe_length (wipe σ vs) vs
  have l2 := wipe_length σ vs
  by_cases hj : j ∈ vs
  · have go : ∀ (τ : L2.St) (vs : List Nat), j ∈ vs → j < τ.length → (wipe τ vs)[j]? = some none := by
      intro τ vs
      induction vs with
      | nil => intro h; cases h
      | cons a vs ih =>
        intro h hl
        unfold wipe
        by_cases e : a = j
        · subst e
          rw [List.getElem?_set_self (by rw [wipe_length]; exact hl)]
        · rw [List.getElem?_set_ne e]
          exact ih (by rcases List.mem_cons.mp h with z | z; exact absurd z.symm e; exact z) hl
    by_cases hl : j < σ.length
    · rw [go _ _ hj (by omega), go _ _ hj hl]
    · rw [List.getElem?_eq_none (by omega), List.getElem?_eq_none (by omega)]
  · rw [wipe_out hj]
section
variable {S : Sx} {n : Nat} {T : Tags} {O O' : Lab} {ρ : DEnv} {σ : L2.St} {H H' : Hp}
theorem StE.wipe (h : StE S n T O ρ σ H) (vs : List Nat) : StE S n T O (wipeD ρ vs) (wipe σ vs) H := by
  refine ⟨by rw [wipe_length]; exact h.lenV, by rw [wipeD_length]; exact h.lenD, fun {i d} e => ?_, h.src⟩
  obtain ⟨e1, e2⟩ := wipeD_some e
  obtain ⟨v, g, r⟩ := h.val e1
  exact ⟨v, by rw [wipe_out e2]; exact g, r⟩
theorem StE.set {i : Nat} {d : D} {v : V} (h : StE S n T O ρ σ H) (ht : tg T i = 0) (r : Rep S.ds (LV O) H d v) : StE S n T O (ρ.set i (some d)) (σ.set i (some v)) H := by
  refine ⟨by rw [List.length_set]; exact h.lenV, by rw [List.length_set]; exact h.lenD, fun {j e} q => ?_, h.src⟩
  by_cases z : i = j
  · subst z
    have hl : i < ρ.length := by
      have := (List.getElem?_eq_some_iff.mp q).1
      simpa using this
    rw [List.getElem?_set_self hl] at q
    cases q
    exact ⟨v, List.getElem?_set_self (by rw [h.lenV, ← h.lenD]; exact hl), r.read, fun _ => r, fun z => by omega, fun z => by omega⟩
  · rw [List.getElem?_set_ne z] at q ⊢
    exact h.val q
/-- the new list at D so far -/
def Acc (m : Nat) (S : Sx) (O : Lab) (H : Hp) (D : Addr) (done : List DL.D) (acc : List V) : Prop :=
  if m = 3 then ∃ qs : List Addr, acc = qs.map V.ref ∧ (D :: qs).Nodup ∧ Own1L S O H 2 done qs else RepL S.ds (LV O) H done acc
theorem Own1L.dom {l : Nat} : ∀ {xs : List DL.D} {qs : List Addr}, Own1L S O H l xs qs → ∀ q ∈ qs, ∃ vs, H q = some (.lst vs)
  | _, _, .nil, _, h => by cases h
  | _, _, .cons h0 h1 h2 h3 t, q, h => by
    rcases List.mem_cons.mp h with rfl | h
    · exact ⟨_, h1⟩
    · exact Own1L.dom t q h
theorem Own1L.append {l : Nat} : ∀ {xs ys : List DL.D} {qs rs : List Addr}, Own1L S O H l xs qs → Own1L S O H l ys rs → Own1L S O H l (xs ++ ys) (qs ++ rs)
  | _, _, _, _, .nil, s => s
  | _, _, _, _, .cons h0 h1 h2 h3 t, s => .cons h0 h1 h2 h3 (Own1L.append t s)
theorem Own1L.length {l : Nat} : ∀ {xs : List DL.D} {qs : List Addr}, Own1L S O H l xs qs → xs.length = qs.length
  | _, _, .nil => rfl
  | _, _, .cons _ _ _ _ t => congrArg (· + 1) (Own1L.length t)
theorem kpUpd {D : Addr} {a : List V} {o : HO} (h2 : O D = some 2) (h1 : H D = some (.lst a)) : Kp (LV O) (LV O) H (upd H D o) := by
  have ne : ∀ {b : Addr}, O b = none → b ≠ D := fun h z => by rw [z, h2] at h; cases h
  refine ⟨fun {a u} r _ l => ⟨l, ?_⟩, fun {a vs} e l => ⟨l, by rw [upd_ne (ne l)]; exact e⟩, fun b vs e => ?_, fun b o vs e => ?_⟩
  · rcases r with r | ⟨o, r⟩
    · exact .inl (by rw [upd_ne (ne l)]; exact r)
    · exact .inr ⟨o, by rw [upd_ne (ne l)]; exact r⟩
  · rw [upd_ne (ne_of e h1 (fun z => nomatch z))]; exact e
  · rw [upd_ne (ne_of e h1 (fun z => nomatch z))]; exact e
theorem Own1L.upd {D : Addr} {a : List V} {o : HO} (h2 : O D = some 2) (h1 : H D = some (.lst a)) : ∀ {xs : List DL.D} {qs : List Addr}, D ∉ qs → Own1L S O H 2 xs qs → Own1L S O (upd H D o) 2 xs qs
  | _, _, _, .nil => .nil
  | _, _, hn, .cons g0 g1 g2 g3 t => by
    rw [List.mem_cons, not_or] at hn
    exact .cons g0 (by rw [upd_ne (Ne.symm hn.1)]; exact g1) g2 (RepL.kp (kpUpd h2 h1) _ _ g3) (Own1L.upd h2 h1 hn.2 t)
theorem Acc.ext {m : Nat} {D : Addr} {done : List DL.D} {acc : List V} (x : Ext S O H O' H') (h : Acc m S O H D done acc) : Acc m S O' H' D done acc := by
  unfold Acc at h ⊢
  split at h
  · rename_i z
    rw [if_pos z]
    obtain ⟨qs, e, nd, o⟩ := h
    exact ⟨qs, e, nd, o.ext x (by decide)⟩
  · rename_i z
    rw [if_neg z]
    exact RepL.kp x.kpV _ _ h
theorem Acc.upd {m : Nat} {D : Addr} {done : List DL.D} {acc a : List V} {o : HO} (h2 : O D = some 2) (h1 : H D = some (.lst a)) (h : Acc m S O H D done acc) : Acc m S O (upd H D o) D done acc := by
  unfold Acc at h ⊢
  split at h
  · rename_i z
    rw [if_pos z]
    obtain ⟨qs, e, nd, ow⟩ := h
    exact ⟨qs, e, nd, ow.upd h2 h1 (List.nodup_cons.mp nd).1⟩
  · rename_i z
    rw [if_neg z]
    exact RepL.kp (kpUpd h2 h1) _ _ h
/-- an owned list, for a list of lists -/
theorem Acc.snoc {m : Nat} {D : Addr} {done : List DL.D} {acc : List V} {y : DL.D} {v : V} (h : Acc m S O H D done acc) (hD : H D = some (.lst acc)) (r : RepM (if m = 3 then 2 else 0) S O H y v) (hl : m = 3 → isLst y = true) (hn : m = 3 → ∀ q, v = .ref q → q ≠ D ∧ V.ref q ∉ acc) : Acc m S O H D (done ++ [y]) (acc ++ [v]) := by
  unfold Acc at h ⊢
  split at h
  · rename_i z
    rw [if_pos z]
    rw [if_pos z] at r
    obtain ⟨qs, e, nd, ow⟩ := h
    have hy := hl z
    cases y with
    | lst ys =>
      obtain ⟨q, us, ev, n, g, zl, i⟩ := (show Own1 S O H 2 (.lst ys) v from r)
      obtain ⟨n1, n2⟩ := hn z q ev
      refine ⟨qs ++ [q], by rw [e, ev]; simp, ?_, ow.append (.cons n g zl i .nil)⟩
      have n3 : q ∉ qs := fun hq => n2 (by rw [e]; exact List.mem_map_of_mem hq)
      rw [List.nodup_cons] at nd ⊢
      refine ⟨fun hm => ?_, ?_⟩
      · rcases List.mem_append.mp hm with hm | hm
        · exact nd.1 hm
        · exact n1 (List.mem_singleton.mp hm).symm
      · exact List.nodup_append.mpr ⟨nd.2, by simp, fun a ha b hb => by rw [List.mem_singleton.mp hb]; rintro rfl; exact n3 ha⟩
    | _ => cases hy
  · rename_i z
    rw [if_neg z]
    rw [if_neg z] at r
    exact h.append (.cons r .nil)
/-- what is new stays a step from before, whatever happens to it -/
theorem Ext.over {D : Addr} {o : HO} {O1 : Lab} {H1 : Hp} (hD : H D = none) (x : Ext S O H O1 H1) : Ext S O H O1 (upd H1 D o) where
  old := fun e n => by rw [upd_ne (ne_of_none e hD)]; exact x.old e n
  lab := fun e => x.lab e
  dom := fun e => by obtain ⟨o', e'⟩ := x.dom e; exact ⟨o', by rw [upd_ne (ne_of_none e hD)]; exact e'⟩
  tup := fun e => by rw [upd_ne (ne_of_none e hD)]; exact x.tup e
  gt := fun e => by rw [upd_ne (ne_of_none e hD)]; exact x.gt e
  src := fun h => by
    obtain ⟨a1, a2, a3, c, l, mi, t, a4, a5, a6⟩ := id h
    obtain ⟨b1, b2, b3, c', l', mi', t', b4, b5, b6⟩ := x.src h
    exact ⟨b1, b2, b3, c', l', mi', t', by rw [upd_ne (ne_of_none a4 hD)]; exact b4, by rw [upd_ne (ne_of_none a5 hD)]; exact b5, b6⟩
theorem Ext.relab {D : Addr} {l : Option Nat} {O1 : Lab} {H1 : Hp} (hD : H D = none) (x : Ext S O H O1 H1) : Ext S O H (relab O1 D l) H1 where
  old := x.old
  lab := fun e => by rw [relab_ne (ne_of_none e hD)]; exact x.lab e
  dom := x.dom
  tup := x.tup
  gt := x.gt
  src := fun h => by
    obtain ⟨a1, a2, a3, c, l, mi, t, a4, a5, a6⟩ := id h
    exact (x.src h).relab (relab_ne (ne_of_none a4 hD)) (relab_ne (ne_of_none a5 hD))
/-- the list is ready -/
theorem Acc.fin {m : Nat} {D : Addr} {done : List DL.D} {acc : List V} (h : Acc m S O H D done acc) (h2 : O D = some 2) (h1 : H D = some (.lst acc)) (hz : acc.length ≤ sizeLine) : RepM m S (DL.relab O D (lbl m)) H (.lst done) (.ref D) := by
  unfold Acc at h
  split at h
  · rename_i z
    subst z
    obtain ⟨qs, e, nd, ow⟩ := h
    have e0 : DL.relab O D (lbl 3) = O := by
      funext a
      unfold DL.relab
      split
      · rename_i ea; rw [ea, h2]; rfl
      · rfl
    rw [e0]
    exact ⟨D, qs, rfl, h2, by rw [← e]; exact h1, by rw [e, List.length_map] at hz; exact hz, nd, ow⟩
  · rename_i z
    have kp : Kp (LV O) (LV (DL.relab O D (lbl m))) H H := by
      have ne : ∀ {b : Addr}, O b = none → b ≠ D := fun h z => by rw [z, h2] at h; cases h
      exact ⟨fun r _ l => ⟨by show DL.relab O D _ _ = none; rw [relab_ne (ne l)]; exact l, r⟩, fun r l => ⟨by show DL.relab O D _ _ = none; rw [relab_ne (ne l)]; exact l, r⟩, fun _ _ e => e, fun _ _ _ e => e⟩
    have i := RepL.kp kp _ _ h
    unfold RepM
    split
    · exact .lst (by show DL.relab O D _ D = none; rw [relab_same]; rfl) h1 hz i
    · exact ⟨D, _, rfl, by rw [relab_same]; simp [lbl], h1, hz, i⟩
    · exact ⟨D, _, rfl, by rw [relab_same]; simp [lbl], h1, hz, i⟩
    · exact absurd rfl z
    · exact ⟨D, _, rfl, by rw [relab_same]; unfold lbl; split <;> simp, h1, hz, i.topL⟩
    · refine .lst ?_ h1 hz (RepL.kp kpVR _ _ i)
      show DL.relab O D _ D ≠ some 0
      rw [relab_same]; unfold lbl; split <;> simp
end
end DL
/-! DL, part Zb: the reading of a comprehension. -/
namespace DL
open PySem PySem.Spec PyProof.Rows L2 PySem.W
theorem lstE_wp {Γ : Gam} (hΓ : GMono Γ) : ∀ {e : Ex} {ρ : DEnv} {Q : DL.D → Prop}, lstE e = true → wpE Γ e ρ Q → wpE Γ e ρ fun d => isLst d = true ∧ Q d := by
  intro e ρ Q hl h
  cases e with
  | lst es =>
    rw [wpE] at h ⊢
    exact wpXs.mono hΓ es ρ (fun ds hd => ⟨hd.1, rfl, hd.2⟩) h
  | comp p it ifs x own =>
    rw [wpE] at h ⊢
    exact wpIt.mono hΓ it ρ (fun ds hd => wpMap.mono (fun d k k' f hh => bindPat.mono (fun r hr => wpAnd.mono hΓ ifs r (fun b hb => ite_mono (wpE.mono hΓ x r fun y hy => f _ hy) (f _) hb) hr) hh) (fun ys hy => ⟨rfl, hy⟩) hd) h
  | bin o a b =>
    cases o <;> first | (cases hl; done) | skip
    cases a <;> first | (cases hl; done) | skip
    rename_i es
    rw [wpE, wpE] at h ⊢
    refine wpXs.mono hΓ es ρ (fun ds hd => ⟨hd.1, wpE.mono hΓ b ρ (fun y hy => ?_) hd.2⟩) h
    obtain ⟨z, e, q⟩ := hy.get
    rw [e]
    refine ⟨?_, q⟩
    cases y <;> simp [bopD] at e
    obtain ⟨_, rfl⟩ := e
    rfl
  | _ => cases hl
section
variable {X : Cx} {Γ : Gam} {F : Str → Bool} {k : Nat} {c : SC} (w : WOk X Γ F k c) {n : Nat} {T : Tags} {m : Nat}
include w
theorem comp_sem {p : Pat} {it : It} {ifs : Xs} {e : Ex} {own : List Nat} (hm : m = 3 → lstE e = true) (hpo : ∀ i ∈ patSlots p, i ∈ own) (ht0 : ∀ i ∈ own, tg T i = 0) {σ : L2.St} {H : Hp} {Q : VK}
    (lk : LkI it σ H) (h : tE Γ n T m (.comp p it ifs e own) σ H Q) : tLc (tI Γ n T 1 it) (gPat X.K p) (tAl Γ n T ifs) (tE Γ n T (if m = 3 then 2 else 0) e) own σ H Q := by
  obtain ⟨S, O, ρ, st, h⟩ := h
  rw [wpE] at h
  refine ⟨lk, S, O, ρ, st, wpIt.mono w.mono it ρ (fun ds hds O1 H1 J x1 wd => ?_) h⟩
  intro A hA
  obtain ⟨⟨G, Y, walk, hG, hY⟩, hsh⟩ := wd
  refine lc_it walk (fun i H' => ∃ O' acc done, Ext S O1 H1 O' H' ∧ O' A = some 2 ∧ H' A = some (.lst acc) ∧ acc.length ≤ i ∧ Acc m S O' H' A done acc ∧
    wpMap (fun d kk => bindPat p d (wipeD ρ own) fun ρ' => wpAnd Γ ifs ρ' fun b => if b = true then wpE Γ e ρ' fun y => kk (some y) else kk none) (ds.drop i) fun ys => Res m S O H Q (.lst (done ++ ys))) ?_ ?_ ?_ ?_
  · refine ⟨DL.relab O1 A (some 2), [], [], Ext.new hA, relab_same, upd_same, Nat.le_refl _, ?_, hds⟩
    unfold Acc
    split
    · exact ⟨[], rfl, by simp, .nil⟩
    · exact .nil
  · rintro i H' _ ⟨O', acc, done, x, _⟩
    exact hG O' H' (by unfold Pk; rw [if_neg (by decide)]; exact x)
  · rintro i x Hc H' hi ⟨O', acc, done, xc, a1, a2, a3, a4, hw⟩ hy
    have hd : ds[i]? = some ds[i] := List.getElem?_eq_getElem hi
    rw [List.drop_eq_getElem_cons hi] at hw
    rw [wpMap] at hw
    obtain ⟨O2, x2, r⟩ := hY i O' Hc x H' _ (by unfold Pk; rw [if_neg (by decide)]; exact xc) hd hy
    have st2 : StE S n T O2 (wipeD ρ own) (wipe σ own) H' := (((st.ext x1).ext xc).ext x2).wipe own
    refine gPat_sem (K := X.K) (R := fun ρ' σ' => StE S n T O2 ρ' σ' H' ∧ wipe σ' own = wipe σ own) p (fun j hj ρ' σ' d v hR rr => ⟨hR.1.set (ht0 j (hpo j hj)) rr, by rw [wipe_in (hpo j hj)]; exact hR.2⟩) r ⟨st2, wipe_wipe⟩ hw fun ρ' σ' hR hk => ⟨hR.2, ?_⟩
    refine ⟨S, O2, ρ', hR.1, wpAnd.mono w.mono ifs ρ' (fun b hb O3 H3 x3 => ?_) hk⟩
    have x03 := xc.trans (x2.trans x3)
    have y03 := x2.trans x3
    have n2 : ∀ {Ox Hx}, Ext S O' Hc Ox Hx → Ox A = some 2 ∧ Hx A = some (.lst acc) := fun {Ox Hx} y => ⟨by rw [y.lab a2]; exact a1, y.old a2 (by rw [a1]; simp)⟩
    cases b
    · dsimp only
      rw [if_neg (by simp)] at hb ⊢
      exact ⟨O3, acc, done, x03, (n2 y03).1, (n2 y03).2, by omega, a4.ext y03, hb⟩
    · dsimp only
      rw [if_pos rfl] at hb ⊢
      have hb' : wpE Γ e ρ' fun y => (m = 3 → isLst y = true) ∧ wpMap (fun d kk => bindPat p d (wipeD ρ own) fun ρ' => wpAnd Γ ifs ρ' fun b => if b = true then wpE Γ e ρ' fun y => kk (some y) else kk none) (ds.drop (i + 1)) fun ys => Res m S O H Q (.lst (done ++ y :: ys)) := by
        by_cases z : m = 3
        · exact wpE.mono w.mono e ρ' (fun y hy => ⟨fun _ => hy.1, hy.2⟩) (lstE_wp w.mono (hm z) hb)
        · exact wpE.mono w.mono e ρ' (fun y hy => ⟨fun z' => absurd z' z, hy⟩) hb
      refine ⟨S, O3, ρ', hR.1.ext x3, wpE.mono w.mono e ρ' (fun y hy O4 H4 v x4 r4 nw => ?_) hb'⟩
      have y04 := y03.trans x4
      have x04 := x03.trans x4
      obtain ⟨b1, b2⟩ := n2 y04
      have hlen : acc.length < sizeLine := by omega
      have acc4 := a4.ext y04
      refine ⟨acc, b2, hlen, O4, acc ++ [v], done ++ [y], Ext.over hA x04, b1, upd_same, by rw [List.length_append]; simp; omega, ?_, ?_⟩
      · refine (acc4.snoc b2 r4 hy.1 fun z q ev => ?_).upd b1 b2
        subst ev
        have hl := hy.1 z
        have hc : isC y = true := by cases y <;> first | rfl | cases hl
        have hq : H3 q = none := nw (by rw [if_pos z]; exact .inl rfl) hc q rfl
        refine ⟨(fun e => by rw [e, (n2 y03).2] at hq; cases hq), fun hmem => ?_⟩
        have a3' := a4.ext y03
        unfold Acc at a3'
        rw [if_pos z] at a3'
        obtain ⟨qs, e1, _, ow⟩ := a3'
        rw [e1] at hmem
        obtain ⟨q', hq', e2⟩ := List.mem_map.mp hmem
        cases e2
        obtain ⟨vs, e3⟩ := ow.dom q hq'
        rw [e3] at hq
        cases hq
      · exact wpMap.mono (fun d kk kk' f hh => bindPat.mono (fun r hr => wpAnd.mono w.mono ifs r (fun b hb => ite_mono (wpE.mono w.mono e r fun y hy => f _ hy) (f _) hb) hr) hh) (fun ys hys => by rw [List.append_assoc]; exact hys) hy.2
  · rintro Hf ⟨O', acc, done, xc, a1, a2, a3, a4, hw⟩
    rw [List.drop_length, wpMap, List.append_nil] at hw
    have hA0 : H A = none := by
      cases hh : H A with
      | none => rfl
      | some o => obtain ⟨o', e'⟩ := x1.dom hh; rw [e'] at hA; cases hA
    exact hw _ _ _ (Ext.relab hA0 (x1.trans xc)) (a4.fin a1 a2 (by omega)) (.at hA0)
/-- tests of a comprehension -/
theorem sn_pts0 : PTs X [] (tAl Γ n T .nil) := by
  refine ⟨fun pins s σ H Q I ⟨S, O, ρ, st, h⟩ => ?_⟩
  rw [wpAnd] at h
  exact pts_nil.run pins s σ H Q I (h O H Ext.refl)
theorem sn_pts1 {a : Ex} {s : Bool} {e : Expr} (ht : PT X e (tT Γ n T a)) : PTs X [e] (tAl Γ n T (.cons s a .nil)) := by
  refine ⟨fun pins sh σ H Q I ⟨S, O, ρ, st, h⟩ => ?_⟩
  rw [wpAnd] at h
  refine (pts_one ht).run pins sh σ H Q I ⟨S, O, ρ, st, wpE.mono w.mono a ρ (fun x hx => ?_) h⟩
  obtain ⟨b, rfl, g⟩ := dB_get hx
  cases b
  · exact g
  · rw [if_pos rfl, wpAnd] at g; exact g
end
end DL
/-! DL, part Zc: a dict locked while its items are walked. -/
namespace DL
open PySem PySem.Spec PyProof.Rows L2 PySem.W
section
variable {S : Sx} {O : Lab} {H H' : Hp}
/-- what RepM leans on -/
structure Kp2 (O : Lab) (H H' : Hp) : Prop where
  v : Kp (LV O) (LV O) H H'
  r : Kp (LR O) (LR O) H H'
  own : ∀ {a : Addr} {u : HO}, O a = some 2 → (∃ xs, u = .lst xs) ∨ Shp u → H a = some u → H' a = some u
theorem Top.kp2 {d : D} {v : V} (kk : Kp2 O H H') (h : Top S O H d v) : Top S O H' d v := by
  cases d with
  | lst xs => obtain ⟨p, vs, e, n, r, z, i⟩ := h; exact ⟨p, vs, e, n, (kk.r.lst r n).2, z, RepL.kp kk.v _ _ i⟩
  | dK xs => obtain ⟨p, vs, e, n, r, z, i⟩ := h; exact ⟨p, vs, e, n, (kk.r.lab r trivial n).2, z, RepK.kp kk.v _ _ i⟩
  | dT xs => obtain ⟨p, vs, e, n, r, z, i⟩ := h; exact ⟨p, vs, e, n, (kk.r.lab r trivial n).2, z, RepT.kp kk.v _ _ i⟩
  | _ => exact Rep.kp kk.v _ _ h
theorem TopL.kp2 (kk : Kp2 O H H') : ∀ {xs : List D} {vs : List V}, TopL S O H xs vs → TopL S O H' xs vs
  | _, _, .nil => .nil
  | _, _, .cons h t => .cons (Top.kp2 kk h) (TopL.kp2 kk t)
theorem Top2.kp2 {d : D} {v : V} (kk : Kp2 O H H') (h : Top2 S O H d v) : Top2 S O H' d v := by
  cases d with
  | lst xs => obtain ⟨p, vs, e, n, r, z, i⟩ := h; exact ⟨p, vs, e, n, (kk.r.lst r n).2, z, i.kp2 kk⟩
  | _ => exact Rep.kp kk.v _ _ h
theorem Own1L.kp2 (kk : Kp2 O H H') : ∀ {xs : List D} {qs : List Addr}, Own1L S O H 2 xs qs → Own1L S O H' 2 xs qs
  | _, _, .nil => .nil
  | _, _, .cons h0 h1 h2 h3 t => .cons h0 (kk.own h0 (.inl ⟨_, rfl⟩) h1) h2 (RepL.kp kk.v _ _ h3) (Own1L.kp2 kk t)
theorem RepM.kp2 {m : Nat} {d : D} {v : V} (kk : Kp2 O H H') (h : RepM m S O H d v) : RepM m S O H' d v := by
  unfold RepM at h ⊢
  split at h
  · exact Rep.kp kk.v _ _ h
  · exact h.kp2 kk
  · cases d with
    | lst xs => obtain ⟨p, vs, e, n, r, z, i⟩ := h; exact ⟨p, vs, e, n, kk.own n (.inl ⟨_, rfl⟩) r, z, RepL.kp kk.v _ _ i⟩
    | dK xs => obtain ⟨p, vs, e, n, r, z, i⟩ := h; exact ⟨p, vs, e, n, kk.own n (.inr trivial) r, z, RepK.kp kk.v _ _ i⟩
    | dT xs => obtain ⟨p, vs, e, n, r, z, i⟩ := h; exact ⟨p, vs, e, n, kk.own n (.inr trivial) r, z, RepT.kp kk.v _ _ i⟩
    | _ => exact Rep.kp kk.v _ _ h
  · cases d with
    | lst xs => obtain ⟨p, qs, e, n, r, z, nd, i⟩ := h; exact ⟨p, qs, e, n, kk.own n (.inl ⟨_, rfl⟩) r, z, nd, i.kp2 kk⟩
    | _ => exact Rep.kp kk.v _ _ h
  · exact h.kp2 kk
  · exact Rep.kp kk.r _ _ h
/-- a dict's HO -/
def dHO : HO → Prop
  | .dK _ => True
  | .ext _ => True
  | _ => False
theorem dHO_shp {u : HO} (h : dHO u) : Shp u ∧ Mut (some u) ∧ (∀ xs, u ≠ .lst xs) ∧ (∀ xs, u ≠ .tup xs) ∧ (∀ o x, u ≠ .frz o x) := by
  cases u <;> first | exact h.elim | exact ⟨trivial, trivial, (fun _ z => nomatch z), (fun _ z => nomatch z), (fun _ _ z => nomatch z)⟩
theorem lock_kp {L : Addr → Prop} {d : Addr} {od : Obj} {u : HO} (hd : H d = some u) (hu : dHO u) : Kp L L H (upd H d (.frz od u)) := by
  obtain ⟨s1, s2, s3, s4, s5⟩ := dHO_shp hu
  refine ⟨fun {a x} r sx l => ⟨l, ?_⟩, fun {a vs} e l => ⟨l, ?_⟩, fun a vs e => ?_, fun a o vs e => ?_⟩
  · by_cases ha : a = d
    · subst ha
      rcases r with r | ⟨o, r⟩
      · rw [hd] at r; cases r; exact .inr ⟨od, upd_same⟩
      · rw [hd] at r; cases r; exact absurd rfl (s5 _ _)
    · rcases r with r | ⟨o, r⟩
      · exact .inl (by rw [upd_ne ha]; exact r)
      · exact .inr ⟨o, by rw [upd_ne ha]; exact r⟩
  · rw [upd_ne (ne_of e hd (fun z => s3 _ z.symm))]; exact e
  · rw [upd_ne (ne_of e hd (fun z => s4 _ z.symm))]; exact e
  · rw [upd_ne (ne_of e hd (fun z => s5 _ _ z.symm))]; exact e
theorem unlock_kp {L : Addr → Prop} {d : Addr} {od : Obj} {u : HO} (hd : H d = some (.frz od u)) (hu : dHO u) : Kp L L H (upd H d u) := by
  obtain ⟨s1, s2, s3, s4, s5⟩ := dHO_shp hu
  refine ⟨fun {a x} r sx l => ⟨l, ?_⟩, fun {a vs} e l => ⟨l, ?_⟩, fun a vs e => ?_, fun a o vs e => ?_⟩
  · by_cases ha : a = d
    · subst ha
      rcases r with r | ⟨o, r⟩
      · rw [hd] at r; cases r; exact sx.elim
      · rw [hd] at r; cases r; exact .inl upd_same
    · rcases r with r | ⟨o, r⟩
      · exact .inl (by rw [upd_ne ha]; exact r)
      · exact .inr ⟨o, by rw [upd_ne ha]; exact r⟩
  · rw [upd_ne (ne_of e hd (fun z => nomatch z))]; exact e
  · rw [upd_ne (ne_of e hd (fun z => nomatch z))]; exact e
  · rw [upd_ne (ne_of e hd (fun z => by cases z; exact s4 _ rfl))]; exact e
theorem unlock_kp2 {d : Addr} {od : Obj} {u : HO} (hd : H d = some (.frz od u)) (hu : dHO u) : Kp2 O H (upd H d u) := by
  refine ⟨unlock_kp hd hu, unlock_kp hd hu, fun {a x} _ sx e => ?_⟩
  rw [upd_ne (ne_of e hd fun z => ?_)]
  · exact e
  · rcases sx with ⟨xs, rfl⟩ | sx
    · cases z
    · rw [z] at sx; exact sx
theorem StE.lock {n : Nat} {T : Tags} {ρ : DEnv} {σ : L2.St} {d : Addr} {od : Obj} {u : HO} (h : StE S n T O ρ σ H) (hd : H d = some u) (hu : dHO u) (n0 : O d ≠ some 0) : StE S n T O ρ σ (upd H d (.frz od u)) := by
  have kv : ∀ {L : Addr → Prop}, Kp L L H (upd H d (.frz od u)) := lock_kp hd hu
  have tp : ∀ {e : D} {v : V}, Top S O H e v → Top S O (upd H d (.frz od u)) e v := by
    intro e v h
    cases e with
    | lst xs => obtain ⟨p, vs, e, n, r, z, i⟩ := h; exact ⟨p, vs, e, n, (kv (L := LR O) |>.lst r n).2, z, RepL.kp kv _ _ i⟩
    | dK xs => obtain ⟨p, vs, e, n, r, z, i⟩ := h; exact ⟨p, vs, e, n, (kv (L := LR O) |>.lab r trivial n).2, z, RepK.kp kv _ _ i⟩
    | dT xs => obtain ⟨p, vs, e, n, r, z, i⟩ := h; exact ⟨p, vs, e, n, (kv (L := LR O) |>.lab r trivial n).2, z, RepT.kp kv _ _ i⟩
    | _ => exact Rep.kp kv _ _ h
  have tpl : ∀ {xs : List D} {vs : List V}, TopL S O H xs vs → TopL S O (upd H d (.frz od u)) xs vs := by
    intro xs
    induction xs with
    | nil => intro vs h; cases h; exact .nil
    | cons x xs ih => intro vs h; cases h with | cons a b => exact .cons (tp a) (ih b)
  refine ⟨h.lenV, h.lenD, fun {i e} q => ?_, ?_⟩
  · obtain ⟨v, g1, g2, g3, g4, g5⟩ := h.val q
    refine ⟨v, g1, Rep.kp kv _ _ g2, fun z => Rep.kp kv _ _ (g3 z), fun z => tp (g4 z), fun z => ?_⟩
    have t2 := g5 z
    cases e with
    | lst xs => obtain ⟨p, vs, e, n, r, z, i⟩ := t2; exact ⟨p, vs, e, n, (kv (L := LR O) |>.lst r n).2, z, tpl i⟩
    | _ => exact Rep.kp kv _ _ t2
  · obtain ⟨a1, a2, a3, c, l, mi, t, a4, a5, a6⟩ := h.src
    have e1 : S.ds ≠ d := fun z => n0 (by rw [← z]; exact a1)
    have e2 : S.dc ≠ d := fun z => n0 (by rw [← z]; exact a2)
    exact ⟨a1, a2, a3, c, l, mi, t, by rw [upd_ne e1]; exact a4, by rw [upd_ne e2]; exact a5, a6⟩
theorem Res.lock {m : Nat} {d : Addr} {od : Obj} {u : HO} {e : D} {Q : VK} (h : Res m S O H Q e) (hd : H d = some u) (hu : dHO u) (n0 : O d ≠ some 0) : Res m S O (upd H d (.frz od u)) (fun v H' => H' d = some (.frz od u) ∧ Q v (upd H' d u)) e := by
  obtain ⟨s1, s2, s3, s4, s5⟩ := dHO_shp hu
  intro O' H' v x r nw
  have hd' := x.old (a := d) upd_same n0
  refine ⟨hd', h O' _ v ⟨fun {a o} e n => ?_, fun {a o} e => ?_, fun {a o} e => ?_, fun {a vs} e => ?_, fun {a o vs} e => ?_, fun hs => ?_⟩ (r.kp2 (unlock_kp2 hd' hu)) ?_⟩
  · by_cases ha : a = d
    · subst ha; rw [hd] at e; cases e; exact upd_same
    · rw [upd_ne ha]; exact x.old (by rw [upd_ne ha]; exact e) n
  · by_cases ha : a = d
    · subst ha; exact x.lab upd_same
    · exact x.lab (by rw [upd_ne ha]; exact e)
  · by_cases ha : a = d
    · exact ⟨u, by rw [ha]; exact upd_same⟩
    · obtain ⟨o', e'⟩ := x.dom (a := a) (by rw [upd_ne ha]; exact e)
      exact ⟨o', by rw [upd_ne ha]; exact e'⟩
  · have ha := ne_of e hd (fun z => s4 _ z.symm)
    rw [upd_ne ha]; exact x.tup (by rw [upd_ne ha]; exact e)
  · have ha := ne_of e hd (fun z => s5 _ _ z.symm)
    rw [upd_ne ha]; exact x.gt (by rw [upd_ne ha]; exact e)
  · obtain ⟨a1, a2, a3, c, l, mi, t, a4, a5, a6⟩ := hs
    have e1 : S.ds ≠ d := fun z => n0 (by rw [← z]; exact a1)
    have e2 : S.dc ≠ d := fun z => n0 (by rw [← z]; exact a2)
    obtain ⟨b1, b2, b3, c', l', mi', t', b4, b5, b6⟩ := x.src ⟨a1, a2, a3, c, l, mi, t, by rw [upd_ne e1]; exact a4, by rw [upd_ne e2]; exact a5, a6⟩
    exact ⟨b1, b2, b3, c', l', mi', t', by rw [upd_ne e1]; exact b4, by rw [upd_ne e2]; exact b5, b6⟩
  · intro z hc p ev
    have := nw z hc p ev
    by_cases hp : p = d
    · subst hp; rw [upd_same] at this; cases this
    · rw [upd_ne hp] at this; exact this
end
theorem pe_or2 {X : Cx} {e : Expr} {t t' : TE} (h : PE X e t) (h' : PE X e t') : PE X e (fun σ H Q => t σ H Q ∨ t' σ H Q) := ⟨fun pins s σ H Q I hw => hw.elim (h.run pins s σ H Q I) (h'.run pins s σ H Q I)⟩
/-- the comprehension, its dict locked where it walks one -/
theorem sn_comp {X : Cx} {Γ : Gam} {F : Str → Bool} {k : Nat} {c : SC} (w : WOk X Γ F k c) {n : Nat} {T : Tags} {m : Nat} {p : Pat} {it : It} {ifs : Xs} {e : Ex} {own : List Nat} {elt : Expr} {gs : List Comprehension} {scope : Scope} {pos : Pos} (hiv : itemsV it = true) (hok : okIt F T 1 it = true)
    (h : PE X (.ListComp elt gs scope pos) (fun σ H Q => LkI it σ H ∧ tE Γ n T m (.comp p it ifs e own) σ H Q)) : PE X (.ListComp elt gs scope pos) (tE Γ n T m (.comp p it ifs e own)) := by
  have triv : (∀ σ H, LkI it σ H) → PE X (.ListComp elt gs scope pos) (tE Γ n T m (.comp p it ifs e own)) := fun hl => h.weak fun σ H Q hh => ⟨hl σ H, hh⟩
  cases it with
  | items a =>
    cases a with
    | v j =>
      refine (pe_or2 h (pe_lock h)).weak ?_
      rintro σ H Q ⟨S, O, ρ, st, hh⟩
      have hh0 := hh
      rw [wpE, wpIt, wpE] at hh
      obtain ⟨dd, e1, q⟩ := hh.get
      have e' : ρ[j]? = some (some dd) := by
        rw [List.getD_eq_getElem?_getD] at e1
        cases hx : ρ[j]? with
        | none => rw [hx] at e1; cases e1
        | some o => rw [hx] at e1; simp at e1; rw [e1]
      obtain ⟨v, g1, g2, g3, g4, g5⟩ := st.val e'
      unfold okIt okE at hok
      have ht : tg T j ≤ 1 := of_decide_eq_true hok
      have tp : Top S O H dd v := by
        rcases Nat.lt_or_ge (tg T j) 1 with z | z
        · exact (g3 (by omega)).top
        · exact g4 (by omega)
      have go : ∀ {pp : Addr} {u : HO}, v = .ref pp → Rd H pp u → dHO u → O pp ≠ some 0 → (LkI (.items (.v j)) σ H ∧ tE Γ n T m (.comp p (.items (.v j)) ifs e own) σ H Q) ∨ tLockE (fun σ H Q => LkI (.items (.v j)) σ H ∧ tE Γ n T m (.comp p (.items (.v j)) ifs e own) σ H Q) σ H Q := by
        intro pp u ev rd hu n0
        subst ev
        rcases rd with rd | ⟨o, rd⟩
        · refine .inr ⟨pp, u, rd, (dHO_shp hu).2.1, fun od => ⟨⟨pp, od, u, g1, upd_same⟩, S, O, ρ, st.lock rd hu n0, wpE.mono w.mono _ ρ (fun y hy => hy.lock rd hu n0) hh0⟩⟩
        · exact .inl ⟨⟨pp, o, u, g1, rd⟩, S, O, ρ, st, hh0⟩
      cases dd with
      | dK kvs => obtain ⟨pp, vs, ev, n0, rd, z, i⟩ := tp; exact go ev rd trivial n0
      | dT kvs => obtain ⟨pp, vs, ev, n0, rd, z, i⟩ := tp; exact go ev rd trivial n0
      | _ => exact q.elim
    | _ => cases hiv
  | keys a =>
    cases a with
    | v j =>
      refine (pe_or2 h (pe_lock h)).weak ?_
      rintro σ H Q ⟨S, O, ρ, st, hh⟩
      have hh0 := hh
      rw [wpE, wpIt, wpE] at hh
      obtain ⟨dd, e1, q⟩ := hh.get
      have e' : ρ[j]? = some (some dd) := by
        rw [List.getD_eq_getElem?_getD] at e1
        cases hx : ρ[j]? with
        | none => rw [hx] at e1; cases e1
        | some o => rw [hx] at e1; simp at e1; rw [e1]
      obtain ⟨v, g1, g2, g3, g4, g5⟩ := st.val e'
      unfold okIt okE at hok
      have ht : tg T j ≤ 1 := of_decide_eq_true hok
      have tp : Top S O H dd v := by
        rcases Nat.lt_or_ge (tg T j) 1 with z | z
        · exact (g3 (by omega)).top
        · exact g4 (by omega)
      have go : ∀ {pp : Addr} {u : HO}, v = .ref pp → Rd H pp u → dHO u → O pp ≠ some 0 → (LkI (.keys (.v j)) σ H ∧ tE Γ n T m (.comp p (.keys (.v j)) ifs e own) σ H Q) ∨ tLockE (fun σ H Q => LkI (.keys (.v j)) σ H ∧ tE Γ n T m (.comp p (.keys (.v j)) ifs e own) σ H Q) σ H Q := by
        intro pp u ev rd hu n0
        subst ev
        rcases rd with rd | ⟨o, rd⟩
        · refine .inr ⟨pp, u, rd, (dHO_shp hu).2.1, fun od => ⟨⟨pp, od, u, g1, upd_same⟩, S, O, ρ, st.lock rd hu n0, wpE.mono w.mono _ ρ (fun y hy => hy.lock rd hu n0) hh0⟩⟩
        · exact .inl ⟨⟨pp, o, u, g1, rd⟩, S, O, ρ, st, hh0⟩
      cases dd with
      | dK kvs => obtain ⟨pp, vs, ev, n0, rd, z, i⟩ := tp; exact go ev rd trivial n0
      | dT kvs => obtain ⟨pp, vs, ev, n0, rd, z, i⟩ := tp; exact go ev rd trivial n0
      | _ => exact q.elim
    | _ => cases hiv
  | _ => exact triv fun _ _ => trivial
end DL
/-! DL, part Zd: every matched expression has its reading. -/
namespace DL
open PySem PySem.Spec PyProof.Rows L2 PySem.W
theorem xs_stars {c : SC} : ∀ {es : Xs} {es' : List Expr}, mXs c es es' = true → es'.any isStar = false → ∀ {s : Bool} {a : Ex} {r : Xs}, es = .cons s a r → ∃ e er, es' = e :: er ∧ mE c a e = true ∧ mXs c r er = true ∧ er.any isStar = false ∧ s = false := by
  intro es es' h hs s a r e
  subst e
  obtain ⟨e, er, h1, h2, h3⟩ := iv_cons h
  rcases h3 with ⟨_, p, rfl⟩ | ⟨h4, h5, rfl⟩
  · rw [List.any_cons] at hs
    cases hs
  · rw [List.any_cons, Bool.or_eq_false_iff] at hs
    exact ⟨e, er, rfl, h1, h2, hs.2, h4⟩
theorem ixM_of {T : Tags} {m : Nat} {a : Ex} (h : ((((m == 0) || (m == 1) || (m == 4)) && x) && ((ixBase T m a != 5) || (m != 0))) = true) : IxM (ixBase T m a) m := by
  simp only [Bool.and_eq_true, Bool.or_eq_true, beq_iff_eq, bne_iff_ne] at h
  obtain ⟨⟨h1, _⟩, h2⟩ := h
  unfold IxM
  have hb : ixBase T m a = 4 ∧ m = 4 ∨ (m ≠ 4 ∧ (ixBase T m a = 5 ∨ ixBase T m a = 1)) := by
    unfold ixBase
    cases a <;> (by_cases z : m = 4 <;> simp [z])
    rename_i j
    by_cases y : 2 ≤ tg T j <;> simp [y] <;> omega
  omega
def rngI : It → Bool
  | .rng1 _ => true
  | .rng2 _ _ => true
  | .rng3 _ _ _ => true
  | _ => false
theorem mIt_frm {c : SC} {it : It} {e : Expr} (h : mIt c it e = true) : frm e = true := by
  cases it with
  | seq a => exact mE_frm (ivt_seq h)
  | rng1 a => obtain ⟨_, _, _, rfl, _⟩ := ivt_rng1 h; rfl
  | rng2 a b => obtain ⟨_, _, _, _, rfl, _⟩ := ivt_rng2 h; rfl
  | rng3 a b d => obtain ⟨_, _, _, _, _, rfl, _⟩ := ivt_rng3 h; rfl
  | enum a => obtain ⟨_, _, _, rfl, _⟩ := ivt_enum h; rfl
  | zip a b => obtain ⟨_, _, _, _, rfl, _⟩ := ivt_zip h; rfl
  | items a => obtain ⟨_, _, _, rfl, _⟩ := ivt_items h; rfl
  | keys a => exact mE_frm (ivt_keys h)
theorem sn_cmp2T {X : Cx} {Γ : Gam} {F : Str → Bool} {k : Nat} {c : SC} (w : WOk X Γ F k c) {n : Nat} {T : Tags} {o o' : Cop} {a b d : Ex} {l r q : Expr} {p : Pos} (ha : PE X l (tE Γ n T 4 a)) (hb : PE X r (tE Γ n T 4 b)) (hd : PE X q (tE Γ n T 4 d)) (hf' : frm q = true) : PT X (.Compare l [toCmp o, toCmp o'] [r, q] p) (tT Γ n T (.cmp2 o o' a b d)) := by
  refine (pt_chain (cop_ok w.hu o) (cop_ok w.hu o') ha hb hd (by show lastMarks [toCmp o'] [q] = false; unfold lastMarks; exact frm_marks hf')).weak ?_
  rintro σ H Q ⟨S, O, ρ, st, h⟩
  rw [wpE] at h
  refine ⟨S, O, ρ, st, wpE.mono w.mono a ρ (fun x hx => Ext.res fun O1 H1 v1 x1 r1 => ?_) h⟩
  refine ⟨S, O1, ρ, st.ext x1, wpE.mono w.mono b ρ (fun y hy => Ext.res fun O2 H2 v2 x2 r2 => ?_) hx⟩
  obtain ⟨z, e, g⟩ := op_map w hy
  refine ⟨S, O2, x, y, z, (r1.ext x2).read, r2.read, e, z, rfl, ?_⟩
  cases z
  · rw [if_neg (by simp)]
    exact ⟨false, rfl, (show ∀ O' H', Ext S O H O' H' → Q false H' from g) O2 H2 (x1.trans x2)⟩
  · rw [if_pos rfl]
    refine ⟨S, O2, ρ, (st.ext x1).ext x2, wpE.mono w.mono d ρ (fun u hu => Ext.res fun O3 H3 v3 x3 r3 => ?_) g⟩
    obtain ⟨z', e', g'⟩ := op_map w hu
    exact ⟨S, O3, y, u, z', (r2.ext x3).read, r3.read, e', z', rfl, g' O3 H3 ((x1.trans x2).trans x3)⟩
section
variable {Γ : Gam} {F : Str → Bool} {k : Nat}
mutual
theorem snE : ∀ (ir : Ex) {X : Cx} {c : SC} {T : Tags} {e : Expr} {n : Nat}, WOk X Γ F k c → mE c ir e = true → (∀ m, okE F T m ir = true → PE X e (tE Γ n T m ir)) ∧ (okE F T 4 ir = true → PT X e (tT Γ n T ir))
  | .v i, X, c, T, e, n, w, h => by
    obtain ⟨x, p, rfl, hv⟩ := iv_v h
    exact ⟨fun m ok => sn_v w hv ok, fun ok => sn_defT w (sn_v w hv ok) rfl⟩
  | .non, X, c, T, e, n, w, h => by
    obtain ⟨k0, p0, rfl⟩ := iv_non h
    have a : ∀ m, PE X (.Constant .none k0 p0) (tE Γ n T m .non) := fun m => sn_const w pe_non (fun ρ Q h => by rw [wpE] at h; exact h) (fun _ _ _ => .non) rfl
    exact ⟨fun m _ => a m, fun _ => sn_defT w (a 4) rfl⟩
  | .bl b, X, c, T, e, n, w, h => by
    obtain ⟨k0, p0, rfl⟩ := iv_bl h
    have a : ∀ m, PE X (.Constant (.bool b) k0 p0) (tE Γ n T m (.bl b)) := fun m => sn_const w pe_bl (fun ρ Q h => by rw [wpE] at h; exact h) (fun _ _ _ => .bl _) rfl
    exact ⟨fun m _ => a m, fun _ => sn_defT w (a 4) rfl⟩
  | .int b, X, c, T, e, n, w, h => by
    obtain ⟨k0, p0, rfl⟩ := iv_int h
    have a : ∀ m, PE X (.Constant (.int b) k0 p0) (tE Γ n T m (.int b)) := fun m => sn_const w pe_int (fun ρ Q h => by rw [wpE] at h; exact h) (fun _ _ _ => .int _) rfl
    exact ⟨fun m _ => a m, fun _ => sn_defT w (a 4) rfl⟩
  | .str b, X, c, T, e, n, w, h => by
    obtain ⟨k0, p0, rfl⟩ := iv_str h
    have a : ∀ m, PE X (.Constant (.str b) k0 p0) (tE Γ n T m (.str b)) := fun m => sn_const w pe_str (fun ρ Q h => by rw [wpE] at h; exact h) (fun _ _ _ => .str _) rfl
    exact ⟨fun m _ => a m, fun _ => sn_defT w (a 4) rfl⟩
  | .tup es, X, c, T, e, n, w, h => by
    obtain ⟨es', k0, p0, rfl, h1⟩ := iv_tup h
    have a : ∀ m, okE F T m (.tup es) = true → PE X (.Tuple es' k0 p0) (tE Γ n T m (.tup es)) := fun m ok => sn_tup w (snXs es w h1 (by unfold okE at ok; exact ok))
    exact ⟨a, fun ok => sn_defT w (a 4 ok) rfl⟩
  | .lst es, X, c, T, e, n, w, h => by
    obtain ⟨es', p0, rfl, h1⟩ := iv_lst h
    have a : ∀ m, okE F T m (.lst es) = true → PE X (.List es' p0) (tE Γ n T m (.lst es)) := fun m ok => by
      unfold okE at ok
      rw [Bool.and_eq_true, bne_iff_ne] at ok
      exact sn_lst w ok.1 (snXs es w h1 ok.2)
    exact ⟨a, fun ok => sn_defT w (a 4 ok) rfl⟩
  | .dnil t, X, c, T, e, n, w, h => by
    obtain ⟨p0, rfl⟩ := iv_dnil h
    have a : ∀ m, okE F T m (.dnil t) = true → PE X (.Dict [] [] p0) (tE Γ n T m (.dnil t)) := fun m ok => by
      unfold okE at ok
      rw [bne_iff_ne] at ok
      exact sn_dnil w ok
    exact ⟨a, fun ok => sn_defT w (a 4 ok) rfl⟩
  | .bin o a b, X, c, T, e, n, w, h => by
    obtain ⟨l, r, p0, rfl, h1, h2⟩ := iv_bin h
    have q : ∀ m, okE F T m (.bin o a b) = true → PE X (.BinOp l (toOp o) r p0) (tE Γ n T m (.bin o a b)) := fun m ok => by
      unfold okE at ok
      simp only [Bool.and_eq_true, bne_iff_ne] at ok
      exact sn_bin w ok.1 ((snE a w h1).1 1 ok.2.1) ((snE b w h2).1 1 ok.2.2)
    exact ⟨q, fun ok => sn_defT w (q 4 ok) rfl⟩
  | .neg a, X, c, T, e, n, w, h => by
    obtain ⟨l, p0, rfl, h1⟩ := iv_neg h
    have q : ∀ m, okE F T m (.neg a) = true → PE X (.UnaryOp .USub l p0) (tE Γ n T m (.neg a)) := fun m ok => by
      unfold okE at ok
      exact sn_neg w ((snE a w h1).1 4 ok)
    exact ⟨q, fun ok => sn_defT w (q 4 ok) rfl⟩
  | .nt a, X, c, T, e, n, w, h => by
    obtain ⟨l, _, rfl, h1⟩ := iv_nt h
    exact ⟨fun m ok => sn_nt w ((snE a w h1).1 4 (by unfold okE at ok; exact ok)), fun ok => sn_ntT w ((snE a w h1).2 (by unfold okE at ok; exact ok))⟩
  | .and es, X, c, T, e, n, w, h => by
    obtain ⟨es', p, rfl, h1, h2, h3⟩ := iv_and h
    have q : okXs F T 4 es = true → PW X (.BoolOp .And es' p) (tAl Γ n T es) ∧ PE X (.BoolOp .And es' p) (tV (tAl Γ n T es)) := fun ok => snAnd es w h1 h2 h3 ok
    exact ⟨fun m ok => sn_andV w (q (by unfold okE at ok; exact ok)).2, fun ok => sn_andT w (q (by unfold okE at ok; exact ok)).1⟩
  | .or es, X, c, T, e, n, w, h => by
    obtain ⟨es', p, rfl, h1, h2, h3⟩ := iv_or h
    have q : okXs F T 4 es = true → PW X (.BoolOp .Or es' p) (tOl Γ n T es) ∧ PE X (.BoolOp .Or es' p) (tV (tOl Γ n T es)) := fun ok => snOr es w h1 h2 h3 ok
    exact ⟨fun m ok => sn_orV w (q (by unfold okE at ok; exact ok)).2, fun ok => sn_orT w (q (by unfold okE at ok; exact ok)).1⟩
  | .ite t a b, X, c, T, e, n, w, h => by
    obtain ⟨t', l, r, _, rfl, h1, h2, h3⟩ := iv_ite h
    refine ⟨fun m ok => ?_, fun ok => ?_⟩ <;> (unfold okE at ok; simp only [Bool.and_eq_true] at ok)
    · exact sn_ite w ((snE t w h1).2 ok.1) ((snE a w h2).1 m ok.2.1) ((snE b w h3).1 m ok.2.2)
    · exact sn_iteT w ((snE t w h1).2 ok.1) ((snE a w h2).2 ok.2.1) ((snE b w h3).2 ok.2.2)
  | .cmp o a b, X, c, T, e, n, w, h => by
    obtain ⟨l, r, _, rfl, h1, h2⟩ := iv_cmp h
    refine ⟨fun m ok => ?_, fun ok => ?_⟩ <;> (unfold okE at ok; simp only [Bool.and_eq_true] at ok)
    · exact sn_cmp w ((snE a w h1).1 4 ok.1) ((snE b w h2).1 4 ok.2) (mE_frm h2)
    · exact sn_cmpT w ((snE a w h1).1 4 ok.1) ((snE b w h2).1 4 ok.2) (mE_frm h2)
  | .cmp2 o o' a b d, X, c, T, e, n, w, h => by
    obtain ⟨l, r, q, p0, rfl, h1, h2, h3⟩ := iv_cmp2 h
    have g : ∀ m, okE F T m (.cmp2 o o' a b d) = true → PE X (.Compare l [toCmp o, toCmp o'] [r, q] p0) (tE Γ n T m (.cmp2 o o' a b d)) := fun m ok => by
      unfold okE at ok
      simp only [Bool.and_eq_true] at ok
      exact sn_cmp2 w ((snE a w h1).1 4 ok.1) ((snE b w h2).1 4 ok.2.1) ((snE d w h3).1 4 ok.2.2) (mE_frm h2) (mE_frm h3)
    refine ⟨g, fun ok => ?_⟩
    have ok' := ok
    unfold okE at ok'
    simp only [Bool.and_eq_true] at ok'
    exact sn_cmp2T w ((snE a w h1).1 4 ok'.1) ((snE b w h2).1 4 ok'.2.1) ((snE d w h3).1 4 ok'.2.2) (mE_frm h3)
  | .ix a i, X, c, T, e, n, w, h => by
    obtain ⟨l, r, p0, rfl, h1, h2⟩ := iv_ix h
    have q : ∀ m, okE F T m (.ix a i) = true → PE X (.Subscript l r p0) (tE Γ n T m (.ix a i)) := fun m ok => by
      unfold okE at ok
      have hm := ok
      simp only [Bool.and_eq_true] at ok
      have hM : IxM (ixBase T m a) m := ixM_of hm
      exact sn_ix w hM ((snE a w h1).1 _ ok.1.2.1) ((snE i w h2).1 4 ok.1.2.2) (mE_frm h2)
    exact ⟨q, fun ok => sn_defT w (q 4 ok) rfl⟩
  | .sl a lo hi, X, c, T, e, n, w, h => by
    obtain ⟨l, lo', hi', p1, p0, rfl, h1, h2, h3⟩ := iv_sl h
    have q : ∀ m, okE F T m (.sl a lo hi) = true → PE X (.Subscript l (.Slice lo' hi' none p1) p0) (tE Γ n T m (.sl a lo hi)) := fun m ok => by
      unfold okE at ok
      simp only [Bool.and_eq_true, bne_iff_ne] at ok
      exact sn_sl w ok.1 ((snE a w h1).1 1 ok.2.1) (snEo lo w h2 ok.2.2.1) (snEo hi w h3 ok.2.2.2)
    exact ⟨q, fun ok => sn_defT w (q 4 ok) rfl⟩
  | .rev a, X, c, T, e, n, w, h => by
    obtain ⟨l, k0, p1, p2, p3, p0, rfl, h1⟩ := iv_rev h
    have q : ∀ m, okE F T m (.rev a) = true → PE X (.Subscript l (.Slice none none (some (.UnaryOp .USub (.Constant (.int 1) k0 p1) p2)) p3) p0) (tE Γ n T m (.rev a)) := fun m ok => by
      unfold okE at ok
      simp only [Bool.and_eq_true, bne_iff_ne] at ok
      exact sn_rev w ok.1 ((snE a w h1).1 1 ok.2)
    exact ⟨q, fun ok => sn_defT w (q 4 ok) rfl⟩
  | .call f es, X, c, T, e, n, w, h => by
    obtain ⟨q, es', p, rfl, h1, h2, h3, h4, h5⟩ := iv_call h
    have g : ∀ m, okE F T m (.call f es) = true → PE X (.Call (.Name f q) es' [] p) (tE Γ n T m (.call f es)) := fun m ok => by
      unfold okE at ok
      simp only [Bool.and_eq_true, bne_iff_ne, Bool.or_eq_true] at ok
      exact sn_call w ok.1.1 (fun z => by rcases ok.1.2 with y | y; exact absurd z y; exact y) h1 h2 (snXs es w h3 ok.2) h4 h5
    refine ⟨g, fun ok => sn_defT w (g 4 ok) rfl⟩
  | .blt f es, X, c, T, e, n, w, h => by
    obtain ⟨q, es', p, rfl, h1, h3, h4, h5⟩ := iv_blt h
    have g : ∀ m, okE F T m (.blt f es) = true → PE X (.Call (.Name (bfName f) q) es' [] p) (tE Γ n T m (.blt f es)) := fun m ok => by
      unfold okE at ok
      simp only [Bool.and_eq_true, bne_iff_ne] at ok
      exact sn_blt w ok.1 ok.2.1 h1 (snXs es w h3 ok.2.2) h4 h5
    exact ⟨g, fun ok => sn_defT w (g 4 ok) rfl⟩
  | .seq f it, X, c, T, e, n, w, h => by
    obtain ⟨q, e', p, rfl, h1, h2⟩ := iv_seq h
    have g : ∀ m, okE F T m (.seq f it) = true → PE X (.Call (.Name (sfName f) q) [e'] [] p) (tE Γ n T m (.seq f it)) := fun m ok => by
      unfold okE at ok
      simp only [Bool.and_eq_true, bne_iff_ne] at ok
      obtain ⟨hm, hs, hi⟩ := ok
      cases f with
      | tup =>
        have hr : rngI it = true := by cases it <;> first | rfl | cases hs
        exact sn_seqT w h1 (frm_star (mIt_frm h2)) (snRg it w hr h2 hi)
      | lst =>
        have hr : rngI it = true := by cases it <;> first | rfl | cases hs
        exact sn_seqL w hm h1 (frm_star (mIt_frm h2)) (snRg it w hr h2 hi)
      | srt =>
        cases it <;> first | (cases hs; done) | skip
        rename_i a
        obtain ⟨a', ap, cp, rfl, h3, h4⟩ := ivt_items h2
        exact sn_seqS w hm h1 (mE_frm h4) h3 ((snE a w h4).1 1 (by unfold okIt at hi; exact hi))
    exact ⟨g, fun ok => sn_defT w (g 4 ok) rfl⟩
  | .mth mt o es, X, c, T, e, n, w, h => by
    obtain ⟨o', ap, es', p, rfl, h1, h2, h3, h4, h5, h6⟩ := iv_mth h
    have g : ∀ m, okE F T m (.mth mt o es) = true → PE X (.Call (.Attribute o' (mtName mt) ap) es' [] p) (tE Γ n T m (.mth mt o es)) := fun m ok => by
      unfold okE at ok
      simp only [Bool.and_eq_true, Bool.or_eq_true, beq_iff_eq] at ok
      exact sn_mth w (by rcases ok.1 with (z | z) | z <;> simp [z]) h1 (mE_frm h2) ((snE o w h2).1 _ ok.2.1) (snXs es w h3 ok.2.2) h4 h5 h6
    exact ⟨g, fun ok => sn_defT w (g 4 ok) rfl⟩
  | .isin a kk, X, c, T, e, n, w, h => by
    obtain ⟨q, a', r, p, rfl, h1, h2, h3⟩ := iv_isin h
    have g : ∀ m, okE F T m (.isin a kk) = true → PE X (.Call (.Name "isinstance" q) [a', .Name (clName kk) r] [] p) (tE Γ n T m (.isin a kk)) := fun m ok => by
      unfold okE at ok
      exact sn_isin w h1 h2 (frm_star (mE_frm h3)) ((snE a w h3).1 4 ok)
    exact ⟨g, fun ok => sn_defT w (g 4 ok) rfl⟩
  | .sg i kk, X, c, T, e, n, w, h => by
    obtain ⟨x, q, j, r, p, rfl, hv⟩ := iv_sg h
    have g : ∀ m, okE F T m (.sg i kk) = true → PE X (.Subscript (.Name x q) (.Constant (.str (skName kk)) j r) p) (tE Γ n T m (.sg i kk)) := fun m ok => by
      unfold okE at ok
      exact sn_sg w hv (by simpa using ok)
    exact ⟨g, fun ok => sn_defT w (g 4 ok) rfl⟩
  | .comp p it ifs x own, X, c, T, e, n, w, h => by
    obtain ⟨x', tg', iter, ifs', scope, q, rfl, h1, h2, h3, h4, h5, h6, h7, h8⟩ := iv_comp h
    have g : ∀ m, okE F T m (.comp p it ifs x own) = true → PE X (.ListComp x' [⟨tg', iter, ifs', 0⟩] scope q) (tE Γ n T m (.comp p it ifs x own)) := fun m ok => by
      unfold okE at ok
      simp only [Bool.and_eq_true, Bool.or_eq_true, bne_iff_ne, List.all_eq_true, beq_iff_eq, List.contains_iff_mem] at ok
      obtain ⟨⟨⟨⟨⟨o1, o2⟩, o3, o4⟩, o5⟩, o6⟩, o7, o8⟩ := ok
      have hpi : PI X tg' iter (tI Γ n T 1 it) := snIt it w (.inr rfl) h1 o5 o1 o2 h4
      have hpts : ∀ (s : Shared) (H : Hp) (C : Addr) (cl : List (Str × Addr)) (fp : List Addr), PTs (X.blk s H scope (compEnvC scope cl C X.env) fp) ifs' (tAl Γ n T ifs) := fun s H C cl fp => snIfs ifs (w.blk s H scope cl C fp) h5 h6 h7 o7
      have he : ∀ (s : Shared) (H : Hp) (C : Addr) (cl : List (Str × Addr)) (fp : List Addr), PE (X.blk s H scope (compEnvC scope cl C X.env) fp) x' (tE Γ n T (if m = 3 then 2 else 0) x) := fun s H C cl fp => (snE x (w.blk s H scope cl C fp) h8).1 _ (by
        exact o8)
      have hok : BlkOk X.N X.env.scope scope (ownOf c.N own) := by
        rw [w.hN, w.hsc]
        exact blkOk_by h2
      refine sn_comp w o2 o5 ((pe_lc w.calm w.nd hpi hok (g := gPat X.K p) (fun s H C cl fp => pg_pat (w.blk s H scope cl C fp) p tg' h4) hpts he ?_).weak ?_)
      · exact frm_fold (mIt_frm h1)
      · rintro σ H Q ⟨lk, hh⟩
        rw [h3]
        exact comp_sem w (fun z => by rcases o3 with y | y; exact absurd z y; exact y) o4 o6 lk hh
    exact ⟨g, fun ok => sn_defT w (g 4 ok) rfl⟩
theorem snEo : ∀ (eo : Eo) {X : Cx} {c : SC} {T : Tags} {e : Option Expr} {n : Nat}, WOk X Γ F k c → mEo c eo e = true → okEo F T eo = true → PO X e (tEo Γ n T eo)
  | .no, X, c, T, e, n, w, h, _ => by
    obtain rfl := iv_no h
    exact sn_no w
  | .yes a, X, c, T, e, n, w, h, ok => by
    obtain ⟨e', rfl, h1⟩ := iv_yes h
    exact sn_yes w ((snE a w h1).1 4 (by unfold okEo at ok; exact ok))
theorem snXs : ∀ (es : Xs) {X : Cx} {c : SC} {T : Tags} {es' : List Expr} {n m : Nat}, WOk X Γ F k c → mXs c es es' = true → okXs F T m es = true → PA X es' (tXs Γ n T m es)
  | .nil, X, c, T, es', n, m, w, h, _ => by
    obtain rfl := iv_nil h
    exact sn_xnil w
  | .cons s a es, X, c, T, es', n, m, w, h, ok => by
    obtain ⟨e, er, h1, h2, h3⟩ := iv_cons h
    unfold okXs at ok
    simp only [Bool.and_eq_true, Bool.or_eq_true, decide_eq_true_eq, Bool.not_eq_true'] at ok
    obtain ⟨o1, o2, o3⟩ := ok
    rcases h3 with ⟨rfl, p, rfl⟩ | ⟨rfl, h4, rfl⟩
    · exact sn_xstar w (by rcases o1 with ((z | z) | z) | z <;> first | (cases z; done) | simp [z]) ((snE a w h1).1 1 (by rw [if_pos rfl] at o2; exact o2)) (snXs es w h2 o3)
    · exact sn_xcons w h4 ((snE a w h1).1 m (by rw [if_neg (by simp)] at o2; exact o2)) (snXs es w h2 o3)
theorem snAnd : ∀ (es : Xs) {X : Cx} {c : SC} {T : Tags} {es' : List Expr} {n : Nat} {p : Pos}, WOk X Γ F k c → mXs c es es' = true → es' ≠ [] → es'.any isStar = false → okXs F T 4 es = true → PW X (.BoolOp .And es' p) (tAl Γ n T es) ∧ PE X (.BoolOp .And es' p) (tV (tAl Γ n T es))
  | .nil, X, c, T, es', n, p, w, h, hne, _, _ => by
    obtain rfl := iv_nil h
    exact absurd rfl hne
  | .cons s a es, X, c, T, es', n, p, w, h, hne, hst, ok => by
    obtain ⟨e, er, rfl, h1, h2, h3, rfl⟩ := xs_stars h hst rfl
    unfold okXs at ok
    simp only [Bool.and_eq_true, Bool.or_eq_true, decide_eq_true_eq, Bool.not_eq_true'] at ok
    obtain ⟨_, o2, o3⟩ := ok
    rw [if_neg (by simp)] at o2
    have g := snE a (T := T) (n := n) w h1
    cases er with
    | nil =>
      cases es with
      | nil => exact sn_and1 w (g.1 4 o2) (g.2 o2)
      | cons s2 a2 r2 => obtain ⟨_, _, e, _⟩ := xs_stars h2 h3 rfl; cases e
    | cons e2 er =>
      have ih := snAnd es (T := T) (n := n) (p := p) w h2 (fun z => nomatch z) h3 o3
      exact sn_and2 w (g.1 4 o2) (g.2 o2) ih.1 ih.2
theorem snOr : ∀ (es : Xs) {X : Cx} {c : SC} {T : Tags} {es' : List Expr} {n : Nat} {p : Pos}, WOk X Γ F k c → mXs c es es' = true → es' ≠ [] → es'.any isStar = false → okXs F T 4 es = true → PW X (.BoolOp .Or es' p) (tOl Γ n T es) ∧ PE X (.BoolOp .Or es' p) (tV (tOl Γ n T es))
  | .nil, X, c, T, es', n, p, w, h, hne, _, _ => by
    obtain rfl := iv_nil h
    exact absurd rfl hne
  | .cons s a es, X, c, T, es', n, p, w, h, hne, hst, ok => by
    obtain ⟨e, er, rfl, h1, h2, h3, rfl⟩ := xs_stars h hst rfl
    unfold okXs at ok
    simp only [Bool.and_eq_true, Bool.or_eq_true, decide_eq_true_eq, Bool.not_eq_true'] at ok
    obtain ⟨_, o2, o3⟩ := ok
    rw [if_neg (by simp)] at o2
    have g := snE a (T := T) (n := n) w h1
    cases er with
    | nil =>
      cases es with
      | nil => exact sn_or1 w (g.1 4 o2) (g.2 o2)
      | cons s2 a2 r2 => obtain ⟨_, _, e, _⟩ := xs_stars h2 h3 rfl; cases e
    | cons e2 er =>
      have ih := snOr es (T := T) (n := n) (p := p) w h2 (fun z => nomatch z) h3 o3
      exact sn_or2 w (g.1 4 o2) (g.2 o2) ih.1 ih.2
theorem snIfs : ∀ (es : Xs) {X : Cx} {c : SC} {T : Tags} {es' : List Expr} {n : Nat}, WOk X Γ F k c → mXs c es es' = true → es'.length ≤ 1 → es'.any isStar = false → okXs F T 4 es = true → PTs X es' (tAl Γ n T es)
  | .nil, X, c, T, es', n, w, h, _, _, _ => by
    obtain rfl := iv_nil h
    exact sn_pts0 w
  | .cons s a es, X, c, T, es', n, w, h, hl, hst, ok => by
    obtain ⟨e, er, rfl, h1, h2, h3, rfl⟩ := xs_stars h hst rfl
    unfold okXs at ok
    simp only [Bool.and_eq_true, Bool.or_eq_true, decide_eq_true_eq, Bool.not_eq_true'] at ok
    obtain ⟨_, o2, o3⟩ := ok
    rw [if_neg (by simp)] at o2
    cases er with
    | nil =>
      cases es with
      | nil => exact sn_pts1 w ((snE a w h1).2 o2)
      | cons s2 a2 r2 => obtain ⟨_, _, e, _⟩ := xs_stars h2 h3 rfl; cases e
    | cons e2 er => simp at hl
theorem snRg : ∀ (it : It) {X : Cx} {c : SC} {T : Tags} {e : Expr} {n κ : Nat}, WOk X Γ F k c → rngI it = true → mIt c it e = true → okIt F T κ it = true → PRC X e (tRg Γ n T it)
  | .rng1 a, X, c, T, e, n, κ, w, _, h, ok => by
    obtain ⟨q, a', p, rfl, h1, h2⟩ := ivt_rng1 h
    unfold okIt at ok
    exact sn_rng1 w h1 (frm_star (mE_frm h2)) ((snE a w h2).1 4 ok)
  | .rng2 a b, X, c, T, e, n, κ, w, _, h, ok => by
    obtain ⟨q, a', b', p, rfl, h1, h2, h3⟩ := ivt_rng2 h
    unfold okIt at ok
    rw [Bool.and_eq_true] at ok
    exact sn_rng2 w h1 (frm_star (mE_frm h2)) (frm_star (mE_frm h3)) ((snE a w h2).1 4 ok.1) ((snE b w h3).1 4 ok.2)
  | .rng3 a b d, X, c, T, e, n, κ, w, _, h, ok => by
    obtain ⟨q, a', b', d', p, rfl, h1, h2, h3, h4⟩ := ivt_rng3 h
    unfold okIt at ok
    simp only [Bool.and_eq_true] at ok
    exact sn_rng3 w h1 (frm_star (mE_frm h2)) (frm_star (mE_frm h3)) (frm_star (mE_frm h4)) ((snE a w h2).1 4 ok.1) ((snE b w h3).1 4 ok.2.1) ((snE d w h4).1 4 ok.2.2)
  | .seq _, _, _, _, _, _, _, _, h, _, _ => by cases h
  | .enum _, _, _, _, _, _, _, _, h, _, _ => by cases h
  | .zip _ _, _, _, _, _, _, _, _, h, _, _ => by cases h
  | .items _, _, _, _, _, _, _, _, h, _, _ => by cases h
  | .keys _, _, _, _, _, _, _, _, h, _, _ => by cases h
theorem snIt : ∀ (it : It) {X : Cx} {c : SC} {T : Tags} {e : Expr} {n κ : Nat} {p : Pat} {tg' : Expr} {c' : SC}, WOk X Γ F k c → (κ = 0 ∨ κ = 1) → mIt c it e = true → okIt F T κ it = true → patOk p it = true → itemsV it = true → mPat c' p tg' = true → PI X tg' e (tI Γ n T κ it)
  | .rng1 a, X, c, T, e, n, κ, p, tg', c', w, _, h, ok, _, _, _ => sn_rngI w (by
    obtain ⟨q, a', p, rfl, h1, h2⟩ := ivt_rng1 h
    unfold okIt at ok
    exact sn_rng1 w h1 (frm_star (mE_frm h2)) ((snE a w h2).1 4 ok))
  | .rng2 a b, X, c, T, e, n, κ, p, tg', c', w, _, h, ok, _, _, _ => sn_rngI w (by
    obtain ⟨q, a', b', p, rfl, h1, h2, h3⟩ := ivt_rng2 h
    unfold okIt at ok
    rw [Bool.and_eq_true] at ok
    exact sn_rng2 w h1 (frm_star (mE_frm h2)) (frm_star (mE_frm h3)) ((snE a w h2).1 4 ok.1) ((snE b w h3).1 4 ok.2))
  | .rng3 a b d, X, c, T, e, n, κ, p, tg', c', w, _, h, ok, _, _, _ => sn_rngI w (by
    obtain ⟨q, a', b', d', p, rfl, h1, h2, h3, h4⟩ := ivt_rng3 h
    unfold okIt at ok
    simp only [Bool.and_eq_true] at ok
    exact sn_rng3 w h1 (frm_star (mE_frm h2)) (frm_star (mE_frm h3)) (frm_star (mE_frm h4)) ((snE a w h2).1 4 ok.1) ((snE b w h3).1 4 ok.2.1) ((snE d w h4).1 4 ok.2.2))
  | .seq a, X, c, T, e, n, κ, p, tg', c', w, hκ, h, ok, _, _, _ => by
    unfold okIt at ok
    exact sn_Iseq w hκ ((snE a w (ivt_seq h)).1 κ ok)
  | .enum a, X, c, T, e, n, κ, p, tg', c', w, hκ, h, ok, po, _, hp => by
    obtain ⟨q, a', p', rfl, h1, h2⟩ := ivt_enum h
    unfold okIt at ok
    cases p with
    | p i => cases po
    | pn is =>
      obtain ⟨_, _, _, rfl⟩ := mPat_tup hp
      exact sn_Ienum w hκ h1 (frm_star (mE_frm h2)) ((snE a w h2).1 κ ok)
  | .zip a b, X, c, T, e, n, κ, p, tg', c', w, hκ, h, ok, po, _, hp => by
    obtain ⟨q, a', b', p', rfl, h1, h2, h3⟩ := ivt_zip h
    unfold okIt at ok
    rw [Bool.and_eq_true] at ok
    cases p with
    | p i => cases po
    | pn is =>
      obtain ⟨_, _, _, rfl⟩ := mPat_tup hp
      exact sn_Izip w hκ h1 (frm_star (mE_frm h2)) (frm_star (mE_frm h3)) ((snE a w h2).1 κ ok.1) ((snE b w h3).1 κ ok.2)
  | .keys a, X, c, T, e, n, κ, p, tg', c', w, hκ, h, ok, po, iv, hp => by
    cases a <;> first | (cases iv; done) | skip
    obtain ⟨x, xp, rfl, hv⟩ := iv_v (ivt_keys h)
    unfold okIt at ok
    exact sn_Ikeys w hκ hv ok
  | .items a, X, c, T, e, n, κ, p, tg', c', w, hκ, h, ok, po, iv, hp => by
    obtain ⟨a', ap, p', rfl, h1, h2⟩ := ivt_items h
    cases p with
    | p i => cases po
    | pn is =>
      obtain ⟨_, _, _, rfl⟩ := mPat_tup hp
      cases a <;> first | (cases iv; done) | skip
      obtain ⟨x, xp, rfl, hv⟩ := iv_v h2
      unfold okIt at ok
      exact sn_Iitems w hκ hv ok h1
end
end
end DL
/-! DL, part Ze: what statements do to a frame's state. -/
namespace DL
open PySem PySem.Spec PyProof.Rows L2 PySem.W
/-- the addresses as get the label l -/
def relabs (O : Lab) (as : List Addr) (l : Nat) : Lab := fun a => if a ∈ as then some l else O a
section
variable {S : Sx} {O O' : Lab} {H H' : Hp} {as : List Addr} {l : Nat} {n : Nat} {T : Tags} {ρ : DEnv} {σ : L2.St}
theorem relabs_in {a : Addr} (h : a ∈ as) : relabs O as l a = some l := by unfold relabs; rw [if_pos h]
theorem relabs_ne {a : Addr} (h : a ∉ as) : relabs O as l a = O a := by unfold relabs; rw [if_neg h]
theorem relabs_out {a : Addr} (h2 : ∀ a ∈ as, O a = some 2) (h : O a ≠ some 2) : relabs O as l a = O a := relabs_ne fun z => h (h2 a z)
theorem relabs_step (h2 : ∀ a ∈ as, O a = some 2) : Step S O H (relabs O as l) H where
  old := fun e _ => e
  lab := fun e n => relabs_out h2 (by rcases n with n | n | n <;> rw [n] <;> simp)
  dom := fun e => ⟨_, e⟩
  tup := fun e => e
  gt := fun e => e
  src := fun h => h.relab (relabs_out h2 (by rw [h.1]; simp)) (relabs_out h2 (by rw [h.2.1]; simp))
theorem relabs_kp (h2 : ∀ a ∈ as, O a = some 2) : Kp (LV O) (LV (relabs O as l)) H H :=
  ⟨fun r _ h => ⟨by show relabs O as l _ = none; rw [relabs_out h2 (by rw [show O _ = none from h]; simp)]; exact h, r⟩, fun r h => ⟨by show relabs O as l _ = none; rw [relabs_out h2 (by rw [show O _ = none from h]; simp)]; exact h, r⟩, fun _ _ e => e, fun _ _ _ e => e⟩
/-- the mode that a tag asks -/
def tmode : Nat → Nat
  | 0 => 0
  | 1 => 2
  | _ => 3
theorem SlotV.relabs {t j : Nat} {d : D} {v : V} (h2 : ∀ a ∈ as, O a = some 2) (h : SlotV S O H t j d v) : SlotV S (relabs O as l) H t j d v := by
  have o1 : ∀ {e : D} {x : V}, Own1 S O H (j + 3) e x → Own1 S (DL.relabs O as l) H (j + 3) e x := by
    intro e x h
    cases e with
    | lst xs => obtain ⟨p, vs, e, n, r, z, i⟩ := h; exact ⟨p, vs, e, by rw [relabs_out h2 (by rw [n]; simp)]; exact n, r, z, RepL.kp (relabs_kp h2) _ _ i⟩
    | dK xs => obtain ⟨p, vs, e, n, r, z, i⟩ := h; exact ⟨p, vs, e, by rw [relabs_out h2 (by rw [n]; simp)]; exact n, r, z, RepK.kp (relabs_kp h2) _ _ i⟩
    | dT xs => obtain ⟨p, vs, e, n, r, z, i⟩ := h; exact ⟨p, vs, e, by rw [relabs_out h2 (by rw [n]; simp)]; exact n, r, z, RepT.kp (relabs_kp h2) _ _ i⟩
    | _ => exact Rep.kp (relabs_kp h2) _ _ h
  have o1l : ∀ {xs : List D} {qs : List Addr}, Own1L S O H (j + 3) xs qs → Own1L S (DL.relabs O as l) H (j + 3) xs qs := by
    intro xs
    induction xs with
    | nil => intro qs h; cases h; exact .nil
    | cons x xs ih =>
      intro qs h
      cases h with
      | cons g0 g1 g2 g3 t => exact .cons (by rw [relabs_out h2 (by rw [g0]; simp)]; exact g0) g1 g2 (RepL.kp (relabs_kp h2) _ _ g3) (ih t)
  unfold SlotV at h ⊢
  split at h
  · exact Rep.kp (relabs_kp h2) _ _ h
  · exact o1 h
  · cases d with
    | lst xs => obtain ⟨p, qs, e, n, r, z, nd, i⟩ := h; exact ⟨p, qs, e, by rw [relabs_out h2 (by rw [n]; simp)]; exact n, r, z, nd, o1l i⟩
    | _ => exact Rep.kp (relabs_kp h2) _ _ h
/-- a value's own addresses -/
theorem own_addrs {t : Nat} {d : D} {v : V} (i : Nat) (r : RepM (tmode t) S O H d v) : ∃ as : List Addr, (∀ a ∈ as, O a = some 2) ∧ SlotV S (relabs O as (i + 3)) H t i d v ∧ (t = 0 → as = []) ∧ (t = 1 → ∀ a ∈ as, isC d = true ∧ v = .ref a) := by
  match t with
  | 0 => exact ⟨[], (fun _ h => by cases h), Rep.kp (relabs_kp (fun _ h => by cases h)) _ _ (show Rep S.ds (LV O) H d v from r), fun _ => rfl, (fun z => by cases z)⟩
  | 1 =>
    have r' : Own1 S O H 2 d v := r
    cases d with
    | lst xs =>
      obtain ⟨p, vs, e, n, g, z, i'⟩ := r'
      have h2 : ∀ a ∈ [p], O a = some 2 := fun a ha => by rw [List.mem_singleton.mp ha]; exact n
      exact ⟨[p], h2, ⟨p, vs, e, relabs_in List.mem_cons_self, g, z, RepL.kp (relabs_kp h2) _ _ i'⟩, (fun z => by cases z), fun _ a ha => ⟨rfl, by rw [List.mem_singleton.mp ha]; exact e⟩⟩
    | dK xs =>
      obtain ⟨p, vs, e, n, g, z, i'⟩ := r'
      have h2 : ∀ a ∈ [p], O a = some 2 := fun a ha => by rw [List.mem_singleton.mp ha]; exact n
      exact ⟨[p], h2, ⟨p, vs, e, relabs_in List.mem_cons_self, g, z, RepK.kp (relabs_kp h2) _ _ i'⟩, (fun z => by cases z), fun _ a ha => ⟨rfl, by rw [List.mem_singleton.mp ha]; exact e⟩⟩
    | dT xs =>
      obtain ⟨p, vs, e, n, g, z, i'⟩ := r'
      have h2 : ∀ a ∈ [p], O a = some 2 := fun a ha => by rw [List.mem_singleton.mp ha]; exact n
      exact ⟨[p], h2, ⟨p, vs, e, relabs_in List.mem_cons_self, g, z, RepT.kp (relabs_kp h2) _ _ i'⟩, (fun z => by cases z), fun _ a ha => ⟨rfl, by rw [List.mem_singleton.mp ha]; exact e⟩⟩
    | _ => exact ⟨[], (fun _ h => by cases h), Rep.kp (relabs_kp (fun _ h => by cases h)) _ _ r', (fun z => by cases z), (fun _ a ha => by cases ha)⟩
  | t + 2 =>
    have r' : Own2 S O H 2 d v := r
    cases d with
    | lst xs =>
      obtain ⟨p, qs, e, n, g, z, nd, i'⟩ := r'
      have hq : ∀ {xs : List D} {qs : List Addr}, Own1L S O H 2 xs qs → ∀ q ∈ qs, O q = some 2 := by
        intro xs
        induction xs with
        | nil => intro qs h; cases h; exact fun _ h => by cases h
        | cons x xs ih =>
          intro qs h
          cases h with
          | cons g0 _ _ _ t =>
            intro q hq
            rcases List.mem_cons.mp hq with rfl | hq
            · exact g0
            · exact ih t q hq
      have h2 : ∀ a ∈ p :: qs, O a = some 2 := fun a ha => by
        rcases List.mem_cons.mp ha with rfl | ha
        · exact n
        · exact hq i' a ha
      have go : ∀ {xs : List D} {qs' : List Addr}, Own1L S O H 2 xs qs' → (∀ q ∈ qs', q ∈ p :: qs) → Own1L S (DL.relabs O (p :: qs) (i + 3)) H (i + 3) xs qs' := by
        intro xs
        induction xs with
        | nil => intro qs' h _; cases h; exact .nil
        | cons x xs ih =>
          intro qs' h hm
          cases h with
          | cons g0 g1 g2 g3 t => exact .cons (relabs_in (hm _ List.mem_cons_self)) g1 g2 (RepL.kp (relabs_kp h2) _ _ g3) (ih t fun q hq => hm q (List.mem_cons_of_mem _ hq))
      exact ⟨p :: qs, h2, ⟨p, qs, e, relabs_in List.mem_cons_self, g, z, nd, go i' fun q hq => List.mem_cons_of_mem _ hq⟩, (fun z => by cases z), (fun z => by cases z)⟩
    | _ => exact ⟨[], (fun _ h => by cases h), Rep.kp (relabs_kp (fun _ h => by cases h)) _ _ r', (fun z => by cases z), (fun z => by cases z)⟩
theorem tg_set {i j t : Nat} (hi : i < T.length) : tg (T.set i t) j = if j = i then t else tg T j := by
  unfold tg
  rw [List.getD_eq_getElem?_getD, List.getD_eq_getElem?_getD]
  by_cases e : j = i
  · subst e
    rw [if_pos rfl, List.getElem?_set_self hi]
    rfl
  · rw [if_neg e, List.getElem?_set_ne (Ne.symm e)]
/-- a slot takes a value -/
theorem StS.put {i t : Nat} {d : D} {v : V} (h : StS S n T O ρ σ H) (hi : i < T.length) (r : SlotV S O H t i d v) : StS S n (T.set i t) O (ρ.set i (some d)) (σ.set i (some v)) H := by
  refine ⟨by rw [List.length_set]; exact h.lenV, by rw [List.length_set]; exact h.lenD, fun {j e} q => ?_, h.src⟩
  rw [tg_set hi]
  by_cases z : j = i
  · subst z
    have hl : j < ρ.length := by
      have := (List.getElem?_eq_some_iff.mp q).1
      simpa using this
    rw [List.getElem?_set_self hl] at q
    cases q
    exact ⟨v, List.getElem?_set_self (by rw [h.lenV, ← h.lenD]; exact hl), by rw [if_pos rfl]; exact r⟩
  · rw [List.getElem?_set_ne (Ne.symm z)] at q ⊢
    rw [if_neg z]
    exact h.val q
theorem StS.relabs (h2 : ∀ a ∈ as, O a = some 2) (h : StS S n T O ρ σ H) : StS S n T (relabs O as l) ρ σ H := by
  refine ⟨h.lenV, h.lenD, fun {j e} q => ?_, (relabs_step h2).src h.src⟩
  obtain ⟨v, g, r⟩ := h.val q
  exact ⟨v, g, r.relabs h2⟩
theorem StS.pat {i : Nat} {d : D} {v : V} (h : StS S n T O ρ σ H) (ht : tg T i = 0) (r : Rep S.ds (LV O) H d v) : StS S n T O (ρ.set i (some d)) (σ.set i (some v)) H := by
  refine ⟨by rw [List.length_set]; exact h.lenV, by rw [List.length_set]; exact h.lenD, fun {j e} q => ?_, h.src⟩
  by_cases z : i = j
  · subst z
    have hl : i < ρ.length := by
      have := (List.getElem?_eq_some_iff.mp q).1
      simpa using this
    rw [List.getElem?_set_self hl] at q
    cases q
    exact ⟨v, List.getElem?_set_self (by rw [h.lenV, ← h.lenD]; exact hl), by rw [ht]; exact r⟩
  · rw [List.getElem?_set_ne z] at q ⊢
    exact h.val q
/-- a slot's things are frozen -/
theorem StS.frz {i : Nat} (h : StS S n T O ρ σ H) (hi : i < T.length) : StS S n (T.set i 0) (thaw O (i + 3)) ρ σ H := by
  refine ⟨h.lenV, h.lenD, fun {j e} q => ?_, h.src.thaw (by omega)⟩
  obtain ⟨v, g, r⟩ := h.val q
  refine ⟨v, g, ?_⟩
  rw [tg_set hi]
  by_cases z : j = i
  · rw [if_pos z]
    subst z
    unfold SlotV at r
    split at r
    · exact Rep.kp kpThaw _ _ r
    · exact r.thaw
    · exact r.thaw
  · rw [if_neg z]
    have ne : ∀ {a : Addr}, O a = some (j + 3) → DL.thaw O (i + 3) a = some (j + 3) := fun {a} h => by rw [thaw_ne (by rw [h]; simp; omega)]; exact h
    unfold SlotV at r ⊢
    split at r
    · exact Rep.kp kpThaw _ _ r
    · cases e with
      | lst xs => obtain ⟨p, vs, e, n, r, z, i'⟩ := r; exact ⟨p, vs, e, ne n, r, z, RepL.kp kpThaw _ _ i'⟩
      | dK xs => obtain ⟨p, vs, e, n, r, z, i'⟩ := r; exact ⟨p, vs, e, ne n, r, z, RepK.kp kpThaw _ _ i'⟩
      | dT xs => obtain ⟨p, vs, e, n, r, z, i'⟩ := r; exact ⟨p, vs, e, ne n, r, z, RepT.kp kpThaw _ _ i'⟩
      | _ => exact Rep.kp kpThaw _ _ r
    · cases e with
      | lst xs =>
        obtain ⟨p, qs, e, n, r, z, nd, i'⟩ := r
        have go : ∀ {xs : List D} {qs : List Addr}, Own1L S O H (j + 3) xs qs → Own1L S (DL.thaw O (i + 3)) H (j + 3) xs qs := by
          intro xs
          induction xs with
          | nil => intro qs h; cases h; exact .nil
          | cons x xs ih =>
            intro qs h
            cases h with
            | cons g0 g1 g2 g3 t => exact .cons (ne g0) g1 g2 (RepL.kp kpThaw _ _ g3) (ih t)
        exact ⟨p, qs, e, ne n, r, z, nd, go i'⟩
      | _ => exact Rep.kp kpThaw _ _ r
/-- what a slot owns is written -/
structure Wr (O : Lab) (H H' : Hp) (i : Nat) : Prop where
  ex : ∃ (p : Addr) (o o' : HO), O p = some (i + 3) ∧ H p = some o ∧ ((∃ xs, o = .lst xs) ∨ Shp o) ∧ H' = upd H p o'
theorem Wr.step {i : Nat} (w : Wr O H H' i) : Step S O H O H' := by
  obtain ⟨p, o, o', h1, h2, h3, rfl⟩ := w.ex
  have nt : ∀ vs, o ≠ .tup vs := fun vs z => by subst z; rcases h3 with ⟨_, h⟩ | h; cases h; exact h
  have nf : ∀ x u, o ≠ .frz x u := fun x u z => by subst z; rcases h3 with ⟨_, h⟩ | h; cases h; exact h
  refine ⟨fun {a u} e n => ?_, fun _ _ => rfl, fun {a u} e => ?_, fun {a vs} e => ?_, fun {a x vs} e => ?_, fun hs => ?_⟩
  · rw [upd_ne fun z => by subst z; rcases n with n | n <;> (rw [n] at h1; simp at h1)]
    exact e
  · by_cases z : a = p
    · exact ⟨o', by rw [z]; exact upd_same⟩
    · exact ⟨u, by rw [upd_ne z]; exact e⟩
  · rw [upd_ne (ne_of e h2 (fun z => nt _ z.symm))]; exact e
  · rw [upd_ne (ne_of e h2 (fun z => nf _ _ z.symm))]; exact e
  · obtain ⟨a1, a2, a3, c, l, mi, t, a4, a5, a6⟩ := hs
    have e1 : S.ds ≠ p := fun z => by rw [z, h1] at a1; simp at a1
    have e2 : S.dc ≠ p := fun z => by rw [z, h1] at a2; simp at a2
    exact ⟨a1, a2, a3, c, l, mi, t, by rw [upd_ne e1]; exact a4, by rw [upd_ne e2]; exact a5, a6⟩
theorem Wr.kp {i : Nat} (w : Wr O H H' i) : Kp (LV O) (LV O) H H' := by
  obtain ⟨p, o, o', h1, h2, h3, rfl⟩ := w.ex
  have nt : ∀ vs, o ≠ .tup vs := fun vs z => by subst z; rcases h3 with ⟨_, h⟩ | h; cases h; exact h
  have nf : ∀ x u, o ≠ .frz x u := fun x u z => by subst z; rcases h3 with ⟨_, h⟩ | h; cases h; exact h
  have ne : ∀ {a : Addr}, O a = none → a ≠ p := fun h z => by rw [z, h1] at h; cases h
  refine ⟨fun {a u} r _ l => ⟨l, ?_⟩, fun {a vs} e l => ⟨l, by rw [upd_ne (ne l)]; exact e⟩, fun a vs e => ?_, fun a x vs e => ?_⟩
  · rcases r with r | ⟨x, r⟩
    · exact .inl (by rw [upd_ne (ne l)]; exact r)
    · exact .inr ⟨x, by rw [upd_ne (ne l)]; exact r⟩
  · rw [upd_ne (ne_of e h2 (fun z => nt _ z.symm))]; exact e
  · rw [upd_ne (ne_of e h2 (fun z => nf _ _ z.symm))]; exact e
theorem StS.wr {i : Nat} {d : D} {v : V} (h : StS S n T O ρ σ H) (w : Wr O H H' i) (hσ : σ[i]? = some (some v)) (r : SlotV S O H' (tg T i) i d v) : StS S n T O (ρ.set i (some d)) σ H' := by
  refine ⟨h.lenV, by rw [List.length_set]; exact h.lenD, fun {j e} q => ?_, w.step.src h.src⟩
  by_cases z : i = j
  · subst z
    have hl : i < ρ.length := by
      have := (List.getElem?_eq_some_iff.mp q).1
      simpa using this
    rw [List.getElem?_set_self hl] at q
    cases q
    exact ⟨v, hσ, r⟩
  · rw [List.getElem?_set_ne z] at q
    obtain ⟨v', g, r'⟩ := h.val q
    refine ⟨v', g, ?_⟩
    obtain ⟨p, o, o', h1, h2, h3, rfl⟩ := id w.ex
    have ne : ∀ {a : Addr}, O a = some (j + 3) → a ≠ p := fun h y => by rw [y, h1] at h; simp at h; exact z h
    unfold SlotV at r' ⊢
    split at r'
    · exact Rep.kp w.kp _ _ r'
    · cases e with
      | lst xs => obtain ⟨p', vs, e, n, r, z, i'⟩ := r'; exact ⟨p', vs, e, n, by rw [upd_ne (ne n)]; exact r, z, RepL.kp w.kp _ _ i'⟩
      | dK xs => obtain ⟨p', vs, e, n, r, z, i'⟩ := r'; exact ⟨p', vs, e, n, by rw [upd_ne (ne n)]; exact r, z, RepK.kp w.kp _ _ i'⟩
      | dT xs => obtain ⟨p', vs, e, n, r, z, i'⟩ := r'; exact ⟨p', vs, e, n, by rw [upd_ne (ne n)]; exact r, z, RepT.kp w.kp _ _ i'⟩
      | _ => exact Rep.kp w.kp _ _ r'
    · cases e with
      | lst xs =>
        obtain ⟨p', qs, e, n, r, z, nd, i'⟩ := r'
        have go : ∀ {xs : List D} {qs : List Addr}, Own1L S O H (j + 3) xs qs → Own1L S O (upd H p o') (j + 3) xs qs := by
          intro xs
          induction xs with
          | nil => intro qs h; cases h; exact .nil
          | cons x xs ih =>
            intro qs h
            cases h with
            | cons g0 g1 g2 g3 t => exact .cons g0 (by rw [upd_ne (ne g0)]; exact g1) g2 (RepL.kp w.kp _ _ g3) (ih t)
        exact ⟨p', qs, e, n, by rw [upd_ne (ne n)]; exact r, z, nd, go i'⟩
      | _ => exact Rep.kp w.kp _ _ r'
end
end DL
/-! DL, part Zf: statements: the text against the small language, tags. -/
namespace DL
open PySem PySem.Spec PyProof.Rows L2 PySem.W
def notTup' : Expr → Bool
  | .Tuple _ _ _ => false
  | _ => true
def parB (c : SC) (x y : Str) (px py : Pos) (a b : Expr) : Bool :=
  (c.sc.kind == .function) && ((c.sc.names.lookup x == some .local) && (c.sc.names.lookup y == some .local)) && ((py.line == px.line) && !(x == y)) && (!([a, b].all (foldedForSure 8)) && !([a, b].all (constantsAlone 8)))
def isIntE (z : Int) : Expr → Bool
  | .Constant (.int z') _ _ => z == z'
  | _ => false
def isVarE (c : SC) (i : Nat) : Expr → Bool
  | .Name x _ => varB c i x
  | _ => false
/-- while x['left'] < 2 and len(cells) > 0: x['left'] = cells.pop() -/
def mDrain (c : SC) (i : Nat) (ce : Expr → Bool) : Stmt → Bool
  | .While (.BoolOp .And [.Compare a [o1] [b] _, .Compare (.Call (.Name l _) [a2] [] _) [o2] [b2] _] _) [.Assign [a3] (.Call (.Attribute a4 m ap) [] [] cp) _] [] _ =>
    (srcSub c i "left" a && ((o1 == .Lt) && isIntE 2 b)) && (((l == ("len" : Str)) && glB c.sc l) && (ce a2 && ((o2 == .Gt) && isIntE 0 b2))) && (srcSub c i "left" a3 && (ce a4 && ((m == ("pop" : Str)) && (ap.endLine == cp.line))))
  | _ => false
/-- y = x['cells'] -/
def mCells (c : SC) (i j : Nat) : Stmt → Bool
  | .Assign [.Name x _] e _ => stoB c j x && srcSub c i "cells" e
  | _ => false
def parB3 (c : SC) (x y z : Str) (px py pz : Pos) (a b e : Expr) : Bool :=
  ((c.sc.kind == .function) && (c.sc.names.lookup x == some .local) && (c.sc.names.lookup y == some .local) && (c.sc.names.lookup z == some .local)) && ((py.line == px.line) && (pz.line == px.line) && !(x == y) && !(x == z) && !(y == z)) && (!([a, b, e].all (foldedForSure 8)) && !([a, b, e].all (constantsAlone 8)))
def parU3 (c : SC) (x y z : Str) : Bool := !(c.sc.names.lookup x == some .local) || !(c.sc.names.lookup y == some .local) || !(c.sc.names.lookup z == some .local)
/-- two names of which one is no plain local: the tuple is made, then unpacked -/
def parU (c : SC) (x y : Str) : Bool := !(c.sc.names.lookup x == some .local) || !(c.sc.names.lookup y == some .local)
mutual
def mS (c : SC) : Sm → Stmt → Bool
  | .asg i _ e, .Assign [.Name x _] v _ => stoB c i x && mE c e v
  | .unp is e, .Assign [.Tuple ts k p] v _ => mPat c (.pn is) (.Tuple ts k p) && (mE c e v && notTup' v)
  | .par i _ j _ a b, .Assign [.Tuple [.Name x px, .Name y py] _ _] (.Tuple [a', b'] _ _) _ => (stoB c i x && stoB c j y) && ((mE c a a' && mE c b b') && (parB c x y px py a' b' || parU c x y))
  | .par3 i _ j _ k _ a b e, .Assign [.Tuple [.Name x px, .Name y py, .Name z pz] _ _] (.Tuple [a', b', e'] _ _) _ => ((stoB c i x && stoB c j y) && stoB c k z) && (((mE c a a' && mE c b b') && mE c e e') && (parB3 c x y z px py pz a' b' e' || parU3 c x y z))
  | .setix i k e, .Assign [.Subscript (.Name x _) k' _] v _ => varB c i x && (mE c k k' && mE c e v)
  | .setix2 i k k2 e, .Assign [.Subscript (.Subscript (.Name x _) k' _) k2' _] v _ => varB c i x && (mE c k k' && (mE c k2 k2' && mE c e v))
  | .app i e, .Expr (.Call (.Attribute (.Name x _) m ap) [e'] [] cp) _ => varB c i x && ((m == ("append" : Str)) && ((ap.endLine == cp.line) && mE c e e'))
  | .ret e, .Return (some e') _ => mE c e e'
  | .iff t a b, .If t' a' b' _ => mE c t t' && (mSs c a a' && mSs c b b')
  | .for_ p it b, .For tg iter body [] _ => mPat c p tg && (mIt c it iter && mSs c b body)
  | .sset i k e, .Assign [.Subscript (.Name x _) (.Constant (.str s') _ _) _] v _ => varB c i x && ((s' == skName k) && mE c e v)
  | .drain i, st => mDrain c i (srcSub c i "cells") st
  | .appPop i j e, .Expr (.Call (.Attribute (.Name x _) m ap) [.Call (.Attribute (.Name y _) m2 ap2) [e'] [] cp2] [] cp) _ => (varB c i x && varB c j y) && (((m == ("append" : Str)) && (ap.endLine == cp.line)) && (((m2 == ("pop" : Str)) && (ap2.endLine == cp2.line)) && mE c e e'))
  | .whl t b, .While t' body [] _ => mE c t t' && mSs c b body
  | .brk, .Break _ => true
  | .cont, .Continue _ => true
  | .fail, _ => true
  | _, _ => false
def mSs (c : SC) : Ss → List Stmt → Bool
  | .nil, [] => true
  | .cons s r, st :: sts => mS c s st && mSs c r sts
  | .frz _ r, sts => mSs c r sts
  | .drn i j r, s1 :: s2 :: sts => (mCells c i j s1 && mDrain c i (isVarE c j) s2) && mSs c r sts
  | _, _ => false
end
def asgOk : Ex → Bool
  | .comp _ (.items _) _ _ _ => false
  | .comp _ (.keys _) _ _ _ => false
  | _ => true
def noItems : It → Bool
  | .items _ => false
  | .keys _ => false
  | _ => true
/-- both ways -/
def joinT (a b : Option Tags) : Option (Option Tags) := match a, b with
  | none, none => some none
  | some T, none => some (some T)
  | none, some T => some (some T)
  | some T, some T' => if T = T' then some (some T) else none
mutual
/-- the tags behind a statement, if control comes there; none: not served -/
def okS (F : Str → Bool) (Tl : Tags) (T : Tags) : Sm → Option (Option Tags)
  | .asg i t e => if (decide (i < T.length) && decide (t ≤ 2) && asgOk e && okE F T (tmode t) e) = true then some (some (T.set i t)) else none
  | .unp is e => if ((is.all fun i => tg T i == 0) && okE F T 0 e) = true then some (some T) else none
  | .par i t j u a b => if (decide (i < T.length) && decide (j < T.length) && decide (i ≠ j) && decide (t ≤ 1) && decide (u ≤ 1) && okE F T (tmode t) a && okE F T (tmode u) b) = true then some (some ((T.set i t).set j u)) else none
  | .par3 i t j u k v a b e => if ((decide (i < T.length) && decide (j < T.length) && decide (k < T.length)) && (decide (i ≠ j) && decide (i ≠ k) && decide (j ≠ k)) && (decide (t ≤ 1) && decide (u ≤ 1) && decide (v ≤ 1)) && (okE F T (tmode t) a && okE F T (tmode u) b && okE F T (tmode v) e)) = true then some (some (((T.set i t).set j u).set k v)) else none
  | .setix i k e => if ((tg T i == 1) && okE F T 4 k && okE F T 0 e) = true then some (some T) else none
  | .setix2 i k k2 e => if ((tg T i == 2) && okE F T 4 k && okE F T 4 k2 && okE F T 0 e) = true then some (some T) else none
  | .app i e => if ((tg T i == 1) && okE F T 0 e) = true then some (some T) else none
  | .ret e => if okE F T 0 e = true then some none else none
  | .iff t a b => if okE F T 4 t = true then (okSs F Tl T a).bind fun x => (okSs F Tl T b).bind fun y => joinT x y else none
  | .for_ p it b => if (patOk p it && noItems it && okIt F T 0 it && (patSlots p).all fun i => tg T i == 0) = true then (match okSs F T T b with
      | some none => some (some T)
      | some (some T') => if T' = T then some (some T) else none
      | none => none) else none
  | .sset i _ e => if ((tg T i == 0) && okE F T 4 e) = true then some (some T) else none
  | .drain i => if (tg T i == 0) = true then some (some T) else none
  | .appPop i j e => if ((tg T i == 1) && (tg T j == 1) && decide (i ≠ j) && okE F T 4 e) = true then some (some T) else none
  | .whl t b => if okE F T 4 t = true then (match okSs F T T b with
      | some none => some (some T)
      | some (some T') => if T' = T then some (some T) else none
      | none => none) else none
  | .brk => if T = Tl then some none else none
  | .cont => if T = Tl then some none else none
  | .fail => some none
  | .ext _ _ => none
  | .exp _ => none
def okSs (F : Str → Bool) (Tl : Tags) (T : Tags) : Ss → Option (Option Tags)
  | .nil => some (some T)
  | .cons s r => (okS F Tl T s).bind fun x => match x with
    | some T' => okSs F Tl T' r
    | none => (match r with
      | .nil => some none
      | _ => none)
  | .frz i r => if i < T.length then okSs F Tl (T.set i 0) r else none
  | .drn i j r => if ((tg T i == 0) && (tg T j == 0) && decide (i ≠ j)) = true then okSs F Tl T r else none
end
/-- what is wanted behind, in terms of data and of the frame -/
structure KR (n : Nat) (S : Sx) (O : Lab) (H : Hp) (K : Kn) (Tn : Option Tags) (Tl : Tags) (D : Ends) : Prop where
  nx : ∀ T, Tn = some T → ∀ O' H' ρ' σ', Step S O H O' H' → StS S n T O' ρ' σ' H' → K.nx ρ' → D.nx σ' H'
  rt : ∀ O' H' d v, Step S O H O' H' → Rep S.ds (LV O') H' d v → K.rt d → D.rt v H'
  bk : ∀ O' H' ρ' σ', Step S O H O' H' → StS S n Tl O' ρ' σ' H' → K.bk ρ' → D.bk σ' H'
  ct : ∀ O' H' ρ' σ', Step S O H O' H' → StS S n Tl O' ρ' σ' H' → K.ct ρ' → D.ct σ' H'
theorem KR.step {n : Nat} {S : Sx} {O O' : Lab} {H H' : Hp} {K : Kn} {Tn : Option Tags} {Tl : Tags} {D : Ends} (x : Step S O H O' H') (k : KR n S O H K Tn Tl D) : KR n S O' H' K Tn Tl D :=
  ⟨fun T e O2 H2 ρ σ y => k.nx T e O2 H2 ρ σ (x.trans y), fun O2 H2 d v y => k.rt O2 H2 d v (x.trans y), fun O2 H2 ρ σ y => k.bk O2 H2 ρ σ (x.trans y), fun O2 H2 ρ σ y => k.ct O2 H2 ρ σ (x.trans y)⟩
def tSm (Γ : Gam) (n : Nat) (T : Tags) (Tn : Option Tags) (Tl : Tags) (s : Sm) : TS := fun D σ H => ∃ S O ρ K, StS S n T O ρ σ H ∧ wpS Γ s ρ K ∧ KR n S O H K Tn Tl D
def tSms (Γ : Gam) (n : Nat) (T : Tags) (Tn : Option Tags) (Tl : Tags) (s : Ss) : TS := fun D σ H => ∃ S O ρ K, StS S n T O ρ σ H ∧ wpSs Γ s ρ K ∧ KR n S O H K Tn Tl D
end DL
/-! DL, part Zg: what a matched statement looks like; the rules of single statements. -/
namespace DL
open PySem PySem.Spec PyProof.Rows L2 PySem.W
section
variable {c : SC} {st : Stmt}
theorem ivS_asg {i t : Nat} {e : Ex} (h : mS c (.asg i t e) st = true) : ∃ x xp v p, st = .Assign [.Name x xp] v p ∧ stoB c i x = true ∧ mE c e v = true := by
  unfold mS at h
  split at h <;> (try simp_all)
  exact ⟨_, _, _, ⟨⟨rfl, rfl⟩, rfl⟩, h⟩
theorem ivS_unp {is : List Nat} {e : Ex} (h : mS c (.unp is e) st = true) : ∃ ts k q v p, st = .Assign [.Tuple ts k q] v p ∧ mPat c (.pn is) (.Tuple ts k q) = true ∧ mE c e v = true ∧ notTup' v = true := by
  unfold mS at h
  split at h <;> (try simp_all)
  exact ⟨_, _, _, _, ⟨⟨rfl, rfl, rfl⟩, rfl⟩, h⟩
theorem ivS_par {i t j u : Nat} {a b : Ex} (h : mS c (.par i t j u a b) st = true) : ∃ x px y py k1 q1 a' b' k2 q2 p, st = .Assign [.Tuple [.Name x px, .Name y py] k1 q1] (.Tuple [a', b'] k2 q2) p ∧ stoB c i x = true ∧ stoB c j y = true ∧ mE c a a' = true ∧ mE c b b' = true ∧ (parB c x y px py a' b' || parU c x y) = true := by
  unfold mS at h
  split at h <;> (try simp_all)
  obtain ⟨⟨h1, h2⟩, ⟨h3, h4⟩, h5⟩ := h
  exact ⟨_, _, _, _, _, _, _, _, ⟨⟨⟨⟨rfl, rfl⟩, rfl, rfl⟩, rfl, rfl⟩, rfl, rfl⟩, h1, h2, h3, h4, h5⟩
theorem ivS_par3 {i t j u k v : Nat} {a b e : Ex} (h : mS c (.par3 i t j u k v a b e) st = true) : ∃ x px y py z pz k1 q1 a' b' e' k2 q2 p, st = .Assign [.Tuple [.Name x px, .Name y py, .Name z pz] k1 q1] (.Tuple [a', b', e'] k2 q2) p ∧ stoB c i x = true ∧ stoB c j y = true ∧ stoB c k z = true ∧ mE c a a' = true ∧ mE c b b' = true ∧ mE c e e' = true ∧ (parB3 c x y z px py pz a' b' e' || parU3 c x y z) = true := by
  unfold mS at h
  split at h <;> (try simp_all)
  obtain ⟨⟨⟨h1, h2⟩, h3⟩, ⟨⟨h4, h5⟩, h6⟩, h7⟩ := h
  exact ⟨_, _, _, _, _, _, _, _, _, _, _, ⟨⟨⟨⟨rfl, rfl⟩, ⟨rfl, rfl⟩, rfl, rfl⟩, rfl, rfl⟩, rfl, rfl, rfl⟩, h1, h2, h3, h4, h5, h6, h7⟩
theorem ivS_setix {i : Nat} {k e : Ex} (h : mS c (.setix i k e) st = true) : ∃ x xp k' q v p, st = .Assign [.Subscript (.Name x xp) k' q] v p ∧ varB c i x = true ∧ mE c k k' = true ∧ mE c e v = true := by
  unfold mS at h
  split at h <;> (try simp_all)
  exact ⟨_, _, _, _, _, ⟨⟨⟨rfl, rfl⟩, rfl, rfl⟩, rfl⟩, h⟩
theorem ivS_setix2 {i : Nat} {k k2 e : Ex} (h : mS c (.setix2 i k k2 e) st = true) : ∃ x xp k' q k2' q2 v p, st = .Assign [.Subscript (.Subscript (.Name x xp) k' q) k2' q2] v p ∧ varB c i x = true ∧ mE c k k' = true ∧ mE c k2 k2' = true ∧ mE c e v = true := by
  unfold mS at h
  split at h <;> (try simp_all)
  exact ⟨_, _, _, _, _, _, _, ⟨⟨⟨⟨rfl, rfl⟩, rfl, rfl⟩, rfl, rfl⟩, rfl⟩, h⟩
theorem ivS_app {i : Nat} {e : Ex} (h : mS c (.app i e) st = true) : ∃ x xp ap e' cp p, st = .Expr (.Call (.Attribute (.Name x xp) "append" ap) [e'] [] cp) p ∧ varB c i x = true ∧ (ap.endLine == cp.line) = true ∧ mE c e e' = true := by
  unfold mS at h
  split at h <;> (try simp_all)
  obtain ⟨h1, rfl, h2, h3⟩ := h
  exact ⟨_, _, _, _, _, ⟨⟨⟨rfl, rfl⟩, rfl⟩, rfl, rfl⟩, h1, h2, h3⟩
theorem ivS_ret {e : Ex} (h : mS c (.ret e) st = true) : ∃ e' p, st = .Return (some e') p ∧ mE c e e' = true := by
  unfold mS at h
  split at h <;> (try simp_all)
theorem ivS_iff {t : Ex} {a b : Ss} (h : mS c (.iff t a b) st = true) : ∃ t' a' b' p, st = .If t' a' b' p ∧ mE c t t' = true ∧ mSs c a a' = true ∧ mSs c b b' = true := by
  unfold mS at h
  split at h <;> (try simp_all)
  exact ⟨_, _, _, ⟨rfl, rfl, rfl⟩, h⟩
theorem ivS_for {p : Pat} {it : It} {b : Ss} (h : mS c (.for_ p it b) st = true) : ∃ tg' iter body q, st = .For tg' iter body [] q ∧ mPat c p tg' = true ∧ mIt c it iter = true ∧ mSs c b body = true := by
  unfold mS at h
  split at h <;> (try simp_all)
  exact ⟨_, _, _, ⟨rfl, rfl, rfl⟩, h⟩
theorem iv_isInt {z : Int} {e : Expr} (h : isIntE z e = true) : ∃ k p, e = .Constant (.int z) k p := by
  unfold isIntE at h
  split at h <;> (try simp_all)
theorem iv_isVar {i : Nat} {e : Expr} (h : isVarE c i e = true) : ∃ x p, e = .Name x p ∧ varB c i x = true := by
  unfold isVarE at h
  split at h <;> (try simp_all)
theorem iv_srcSub {i : Nat} {s : Str} {e : Expr} (h : srcSub c i s e = true) : ∃ x p j q r, e = .Subscript (.Name x p) (.Constant (.str s) j q) r ∧ varB c i x = true := by
  unfold srcSub at h
  split at h <;> (try simp_all)
theorem iv_drain {i : Nat} {ce : Expr → Bool} (h : mDrain c i ce st = true) : ∃ a b p1 q a2 p2 b2 p3 p4 a3 a4 ap cp p5 p6, st = .While (.BoolOp .And [.Compare a [.Lt] [b] p1, .Compare (.Call (.Name "len" q) [a2] [] p2) [.Gt] [b2] p3] p4) [.Assign [a3] (.Call (.Attribute a4 "pop" ap) [] [] cp) p5] [] p6 ∧
    srcSub c i "left" a = true ∧ isIntE 2 b = true ∧ glB c.sc "len" = true ∧ ce a2 = true ∧ isIntE 0 b2 = true ∧ srcSub c i "left" a3 = true ∧ ce a4 = true ∧ (ap.endLine == cp.line) = true := by
  unfold mDrain at h
  split at h
  · simp only [Bool.and_eq_true, beq_iff_eq] at h
    obtain ⟨⟨⟨h1, rfl, h3⟩, ⟨rfl, h5⟩, h6, rfl, h8⟩, h9, h10, rfl, h12⟩ := h
    exact ⟨_, _, _, _, _, _, _, _, _, _, _, _, _, _, _, rfl, h1, h3, h5, h6, h8, h9, h10, by simpa using h12⟩
  · cases h
theorem iv_cells {i j : Nat} (h : mCells c i j st = true) : ∃ x p e q, st = .Assign [.Name x p] e q ∧ stoB c j x = true ∧ srcSub c i "cells" e = true := by
  unfold mCells at h
  split at h <;> (try simp_all)
  exact ⟨_, _, _, ⟨⟨rfl, rfl⟩, rfl⟩, h⟩
theorem ivS_sset {i : Nat} {k : Sk} {e : Ex} (h : mS c (.sset i k e) st = true) : ∃ x xp j q r v p, st = .Assign [.Subscript (.Name x xp) (.Constant (.str (skName k)) j q) r] v p ∧ varB c i x = true ∧ mE c e v = true := by
  unfold mS at h
  split at h <;> (try simp_all)
  exact ⟨_, _, _, _, _, _, ⟨⟨⟨rfl, rfl⟩, ⟨rfl, rfl⟩, rfl⟩, rfl⟩, h.1, h.2.2⟩
theorem ivS_drain {i : Nat} (h : mS c (.drain i) st = true) : mDrain c i (srcSub c i "cells") st = true := by
  unfold mS at h
  exact h
theorem ivS_appPop {i j : Nat} {e : Ex} (h : mS c (.appPop i j e) st = true) : ∃ x xp ap y yp ap2 e' cp2 cp p, st = .Expr (.Call (.Attribute (.Name x xp) "append" ap) [.Call (.Attribute (.Name y yp) "pop" ap2) [e'] [] cp2] [] cp) p ∧ varB c i x = true ∧ varB c j y = true ∧ (ap.endLine == cp.line) = true ∧ (ap2.endLine == cp2.line) = true ∧ mE c e e' = true := by
  unfold mS at h
  split at h <;> (try simp_all)
  obtain ⟨⟨h1, h2⟩, ⟨rfl, h3⟩, ⟨rfl, h4⟩, h5⟩ := h
  exact ⟨_, _, _, _, _, _, _, _, _, ⟨⟨⟨rfl, rfl⟩, rfl⟩, ⟨⟨⟨rfl, rfl⟩, rfl⟩, rfl, rfl⟩, rfl⟩, h1, h2, h3, h4, h5⟩
theorem ivS_whl {t : Ex} {b : Ss} (h : mS c (.whl t b) st = true) : ∃ t' body p, st = .While t' body [] p ∧ mE c t t' = true ∧ mSs c b body = true := by
  unfold mS at h
  split at h <;> (try simp_all)
  exact ⟨_, _, ⟨rfl, rfl⟩, h⟩
theorem ivS_drn {i j : Nat} {r : Ss} {sts : List Stmt} (h : mSs c (.drn i j r) sts = true) : ∃ s1 s2 rest, sts = s1 :: s2 :: rest ∧ mCells c i j s1 = true ∧ mDrain c i (isVarE c j) s2 = true ∧ mSs c r rest = true := by
  unfold mSs at h
  split at h <;> (try simp_all)
  exact ⟨_, _, _, ⟨rfl, rfl, rfl⟩, h.1.1, h.1.2, h.2⟩
theorem ivS_brk (h : mS c .brk st = true) : ∃ p, st = .Break p := by
  unfold mS at h
  split at h <;> (try simp_all)
theorem ivS_cont (h : mS c .cont st = true) : ∃ p, st = .Continue p := by
  unfold mS at h
  split at h <;> (try simp_all)
theorem ivS_nil {sts : List Stmt} (h : mSs c .nil sts = true) : sts = [] := by
  unfold mSs at h
  split at h <;> (try simp_all)
theorem ivS_cons {s : Sm} {r : Ss} {sts : List Stmt} (h : mSs c (.cons s r) sts = true) : ∃ st rest, sts = st :: rest ∧ mS c s st = true ∧ mSs c r rest = true := by
  unfold mSs at h
  split at h <;> (try simp_all)
  exact ⟨_, _, ⟨rfl, rfl⟩, h⟩
theorem ivS_frz {i : Nat} {r : Ss} {sts : List Stmt} (h : mSs c (.frz i r) sts = true) : mSs c r sts = true := by
  unfold mSs at h
  exact h
end
theorem ivS_not {c : SC} {s : Sm} {st : Stmt} (h : mS c s st = true) : (∀ i e, s ≠ .ext i e) ∧ (∀ e, s ≠ .exp e) := by
  refine ⟨fun i e z => ?_, fun e z => ?_⟩ <;> (subst z; unfold mS at h; cases h)
/-- is a new comprehension's list stored as it is built -/
def swB (env : Env) (x : Str) (px : Pos) : Expr → Bool
  | .ListComp _ _ scope pos => env.blockKind == .function && env.kindOf x == some .local && px.line == pos.line && !(scope.names.any fun (n, k) => n == x && (k == .local || k == .cell))
  | _ => false
theorem sw_name {env : Env} {x : Str} {px : Pos} {l : Nat} {e : Expr} (hf : frm e = true) : swapsWith e (some (.Name x px)) l env = pure (swB env x px e) := by
  cases e <;> first | rfl | cases hf
theorem sw_other {env : Env} {tg : Expr} {l : Nat} {e : Expr} (hf : frm e = true) (ht : ∀ x p, tg ≠ .Name x p) : swapsWith e (some tg) l env = pure false := by
  cases e <;> first | rfl | (cases hf; done) | skip
  cases tg <;> first | rfl | (exact absurd rfl (ht _ _))
theorem stores_none {env : Env} {tgs : List Expr} {e : Expr} (hf : notTup' e = true ∨ ∀ ts k p, tgs ≠ [.Tuple ts k p] ) (hl : ∀ ts p, tgs ≠ [.List ts p]) : swappedStores tgs e env = pure none := by
  unfold swappedStores
  split
  · rename_i ts vs h
    exfalso
    split at h
    · rcases hf with hf | hf
      · cases hf
      · exact hf _ _ _ rfl
    · exact hl _ _ rfl
    · cases h
  · rfl
end DL
/-! DL, part Zh: rules of single statements. -/
namespace DL
open PySem PySem.Spec PyProof.Rows L2 PySem.W
/-- x[k] = v, x owned by slot i -/
def rSetD : V → V → V → Hp → (Hp → Prop) → Prop := fun o k v H Q => ∃ (S : Sx) (O : Lab) (i : Nat) (d kd vd z : D), Own1 S O H (i + 3) d o ∧ Rep S.ds (LR O) H kd k ∧ Rep S.ds (LV O) H vd v ∧ setD d kd vd = some z ∧ ∀ H', Wr O H H' i → Own1 S O H' (i + 3) z o → Q H'
theorem putK_len {κ : Type} [DecidableEq κ] (kvs : List (κ × V)) (k : κ) (v : V) : (putK kvs k v).length ≤ kvs.length + 1 := by
  unfold putK
  split
  · rw [List.length_map]; omega
  · rw [List.length_append]; simp
theorem set_D {X : Cx} (hu : X.A.units + 64 < cLine) : PSet X rSetD := by
  intro pins s σ H o i v uo ui uv Q I ro ri rv ⟨S, O, j, d, kd, vd, z, h1, h2, h3, h4, q⟩
  unfold setD at h4
  split at h4
  · rename_i xs
    split at h4
    · rename_i n
      obtain ⟨k, e1, rfl⟩ := Option.map_eq_some_iff.mp h4
      obtain ⟨p, vs, rfl, n1, g, zl, it⟩ := h1
      cases h2
      have w : Wr O H (upd H p (.lst (vs.set k v))) j := ⟨p, _, _, n1, g, .inl ⟨_, rfl⟩, rfl⟩
      exact set_list pins s σ H _ _ v uo ui uv Q I ro ri rv ⟨p, vs, n, k, rfl, rfl, g, by rw [← it.length]; exact e1, q _ w ⟨p, _, rfl, n1, upd_same, by rw [List.length_set]; exact zl, (RepL.kp w.kp _ _ it).set k (Rep.kp w.kp _ _ h3)⟩⟩
    · cases h4
  · rename_i kvs
    split at h4
    · rename_i hz
      obtain ⟨k, e1, rfl⟩ := Option.map_eq_some_iff.mp h4
      obtain ⟨p, vs, rfl, n1, g, zl, it⟩ := h1
      obtain rfl := h2.key e1
      have w : Wr O H (upd H p (.dK (putK vs k v))) j := ⟨p, _, _, n1, g, .inr trivial, rfl⟩
      cases ro
      have hl := it.length
      refine d_setItem (hu1 hu) I (DPut.k g (by omega)) ri rv fun s' I' => ⟨_, I', q _ w ⟨p, _, rfl, n1, upd_same, ?_, (RepK.kp w.kp _ _ it).put k (Rep.kp w.kp _ _ h3)⟩⟩
      have := putK_len vs k v
      omega
    · cases h4
  · rename_i kvs
    split at h4
    · rename_i hz
      obtain ⟨k, e1, rfl⟩ := Option.map_eq_some_iff.mp h4
      obtain ⟨p, vs, rfl, n1, g, zl, it⟩ := h1
      obtain ⟨_, e2, _, _, l, rfl⟩ := keyT_of e1
      rw [← e2] at h2
      have h2' := h2
      rw [ofNK] at h2'
      cases h2' with
      | @tup b us _ gt _ _ =>
      have w : Wr O H (upd H p (tabO p (tPut vs (.tup l) b v))) j := ⟨p, _, _, n1, g, .inr trivial, rfl⟩
      cases ro
      cases ri
      have hl := it.length
      refine tb_set hu I g (by omega) it (NkRep.any _ _ h2) (keyT_ok e1) rv fun s' I' => ⟨_, I', q _ w ⟨p, _, rfl, n1, upd_same, ?_, (RepT.kp w.kp _ _ it).put _ (NkRep.any _ _ (NkRep.kp w.kp _ _ (NkRep.any _ _ h2))) (Rep.kp w.kp _ _ h3)⟩⟩
      have := tPut_length vs (.tup l) b v
      omega
    · cases h4
  · cases h4
/-- x[a][b] = v: the row, that slot i owns -/
def rSetR : V → V → V → Hp → (Hp → Prop) → Prop := fun o k v H Q => ∃ (p : Addr) (vs : List V) (n : Int) (j : Nat), o = .ref p ∧ k = .int n ∧ H p = some (.lst vs) ∧ ixN vs.length n = some j ∧ Q (upd H p (.lst (vs.set j v)))
theorem set_R {X : Cx} : PSet X rSetR := fun pins s σ H o i v uo ui uv Q I ro ri rv ⟨p, vs, n, j, e1, e2, g, e3, q⟩ => set_list pins s σ H o i v uo ui uv Q I ro ri rv ⟨p, vs, n, j, e1, e2, g, e3, q⟩
end DL
/-! DL, part Zi: readings of statements. -/
namespace DL
open PySem PySem.Spec PyProof.Rows L2 PySem.W
theorem asg_sub {env : Env} {o i : Expr} {q : Pos} (h : frm i = true) : ∀ v, assign (.Subscript o i q) env v = (do
      let ov ← holding [v] (eval o env)
      let iv ← holding [v, ov] (eval i env)
      standAt q
      holding [v, ov, iv] (setItem ov iv v)
      release [v, ov, iv] []) := by
  intro v
  cases i <;> first | rfl | cases h
theorem slotD {ρ : DEnv} {i : Nat} {d : D} (e : ρ.getD i none = some d) : ρ[i]? = some (some d) := by
  rw [List.getD_eq_getElem?_getD] at e
  cases hx : ρ[i]? with
  | none => rw [hx] at e; cases e
  | some o => rw [hx] at e; simp at e; rw [e]
theorem sw_sole {env : Env} {tg : Expr} {l : Nat} {e : Expr} (hf : frm e = true) (ht : ∀ x p, tg ≠ .Name x p) : swapsWithSole [tg] e l env = pure false := sw_other hf ht
section
variable {X : Cx} {Γ : Gam} {F : Str → Bool} {k : Nat} {c : SC} (w : WOk X Γ F k c) {n : Nat} {T Tl : Tags} {Tn : Option Tags}
include w
/-- what is behind a store -/
theorem put_nx {S : Sx} {O O1 : Lab} {H H1 : Hp} {ρ : DEnv} {σ : L2.St} {K : Kn} {D : Ends} {i t : Nat} {d : DL.D} {v : V} (hi : i < T.length) (st : StS S n T O ρ σ H) (kr : KR n S O H K (some (T.set i t)) Tl D) (x : Ext S O H O1 H1) (r : RepM (tmode t) S O1 H1 d v) (q : K.nx (ρ.set i (some d))) : D.nx (σ.set i (some v)) H1 := by
  obtain ⟨as, h2, sv, _, _⟩ := own_addrs i r
  exact kr.nx _ rfl _ _ _ _ (x.step.trans (relabs_step h2)) (((st.ext x).relabs h2).put hi sv) q
theorem ss_asg {i t : Nat} {e : Ex} {x : Str} {xp p : Pos} {v : Expr} (hi : i < T.length) (hs : stoB c i x = true) (hf : frm v = true) (hsw : swB X.env x xp v = false) (he : PE X v (tE Γ n T (tmode t) e)) : PS X (.Assign [.Name x xp] v p) (tSm Γ n T (some (T.set i t)) Tl (.asg i t e)) := by
  obtain ⟨b1, b2, b3⟩ := w.sto hs
  refine (ps_set (pos' := xp) w.nd b1 b2 he (by rw [sw_name hf, hsw]) b3).weak ?_
  rintro D σ H ⟨S, O, ρ, K, st, h, kr⟩
  rw [wpS] at h
  exact ⟨S, O, ρ, st.e, wpE.mono w.mono e ρ (fun d hd => Ext.res fun O1 H1 v1 x1 r1 => put_nx w hi st kr x1 r1 hd) h⟩
/-- x = [.. for ..]: the list is stored as it is built -/
theorem ss_asgC {i t : Nat} {pt : Pat} {it : It} {ifs : Xs} {e : Ex} {own : List Nat} {x : Str} {xp p q : Pos} {elt tg' iter : Expr} {ifs' : List Expr} {scope : Scope} (hi : i < T.length) (hs : stoB c i x = true) (hsw : swB X.env x xp (.ListComp elt [⟨tg', iter, ifs', 0⟩] scope q) = true)
    (hm : tmode t = 3 → lstE e = true) (hpo : ∀ j ∈ patSlots pt, j ∈ own) (ht0 : ∀ j ∈ own, tg T j = 0) (hlk : ∀ σ H, LkI it σ H) (hown : (ownOf c.N own).map (·.2) = own) (hpi : PI X tg' iter (tI Γ n T 1 it)) (hok : BlkOk X.N X.env.scope scope (ownOf c.N own)) (hpt : mPat (subSC c scope) pt tg' = true)
    (hpts : ∀ (s : Shared) (H : Hp) (C : Addr) (cl : List (Str × Addr)) (fp : List Addr), PTs (X.blk s H scope (compEnvC scope cl C X.env) fp) ifs' (tAl Γ n T ifs)) (he : ∀ (s : Shared) (H : Hp) (C : Addr) (cl : List (Str × Addr)) (fp : List Addr), PE (X.blk s H scope (compEnvC scope cl C X.env) fp) elt (tE Γ n T (if tmode t = 3 then 2 else 0) e)) (hfo : ∀ z, foldedSetIterable iter X.env z = pure z) :
    PS X (.Assign [.Name x xp] (.ListComp elt [⟨tg', iter, ifs', 0⟩] scope q) p) (tSm Γ n T (some (T.set i t)) Tl (.asg i t (.comp pt it ifs e own))) := by
  obtain ⟨b1, b2, b3⟩ := w.sto hs
  have hl : X.env.scope.names.lookup x = some .local := by
    unfold swB at hsw
    simp only [Bool.and_eq_true, beq_iff_eq] at hsw
    exact hsw.1.1.2
  refine (ps_setLc (py := xp) w.calm w.nd b1 hl (by rw [sw_name rfl, hsw]) hpi hok (g := gPat X.K pt) (fun s H C cl fp => pg_pat (w.blk s H scope cl C fp) pt tg' hpt) hpts he hfo).weak ?_
  rintro D σ H ⟨S, O, ρ, K, st, h, kr⟩
  rw [wpS] at h
  rw [hown]
  exact comp_sem w hm hpo ht0 (hlk σ H) ⟨S, O, ρ, st.e, wpE.mono w.mono _ ρ (fun d hd => Ext.res fun O1 H1 v1 x1 r1 => put_nx w hi st kr x1 r1 hd) h⟩
theorem ss_unp {is : List Nat} {e : Ex} {ts : List Expr} {kk : Nat} {q p : Pos} {v : Expr} (h0 : ∀ i ∈ is, tg T i = 0) (hp : mPat c (.pn is) (.Tuple ts kk q) = true) (hf : frm v = true) (hn : notTup' v = true) (he : PE X v (tE Γ n T 0 e)) : PS X (.Assign [.Tuple ts kk q] v p) (tSm Γ n T (some T) Tl (.unp is e)) := by
  refine (ps_asg he (pg_pat w (.pn is) _ hp) (sw_sole hf (fun _ _ z => by cases z)) (stores_none (.inl hn) (fun _ _ z => by cases z))).weak ?_
  rintro D σ H ⟨S, O, ρ, K, st, h, kr⟩
  rw [wpS] at h
  refine ⟨S, O, ρ, st.e, wpE.mono w.mono e ρ (fun d hd => Ext.res fun O1 H1 v1 x1 r1 => ?_) h⟩
  exact gPat_sem (K := X.K) (R := fun ρ' σ' => StS S n T O1 ρ' σ' H1) (.pn is) (fun j hj ρ' σ' d v hR rr => hR.pat (h0 j hj) rr) r1 (st.ext x1) hd fun ρ' σ' hR hk => kr.nx _ rfl _ _ _ _ x1.step hR hk
theorem ss_setix {i : Nat} {kx e : Ex} {x : Str} {xp q p : Pos} {k' v : Expr} (ht : tg T i = 1) (hv : varB c i x = true) (hfk : frm k' = true) (hf : frm v = true) (hk : PE X k' (tE Γ n T 4 kx)) (he : PE X v (tE Γ n T 0 e)) : PS X (.Assign [.Subscript (.Name x xp) k' q] v p) (tSm Γ n T (some T) Tl (.setix i kx e)) := by
  obtain ⟨h1, h2, h3, h4⟩ := w.name hv
  refine (ps_asg he (pg_sub (pe_var h1 h2 h3 h4) hk (set_D w.hu) (asg_sub hfk)) (sw_sole hf (fun _ _ z => by cases z)) (stores_none (.inr (fun _ _ _ z => by cases z)) (fun _ _ z => by cases z))).weak ?_
  rintro D σ H ⟨S, O, ρ, K, st, h, kr⟩
  rw [wpS] at h
  obtain ⟨d, hg, h⟩ := h.get
  refine ⟨S, O, ρ, st.e, wpE.mono w.mono e ρ (fun vd hvd => Ext.res fun O1 H1 v1 x1 r1 => ?_) h⟩
  have st1 := st.ext x1
  obtain ⟨vo, g1, g2⟩ := st1.val (slotD hg)
  refine ⟨vo, g1, S, O1, ρ, st1.e, wpE.mono w.mono kx ρ (fun kd hkd => Ext.res fun O2 H2 v2 x2 r2 => ?_) hvd⟩
  obtain ⟨z, e1, q1⟩ := Opt.get hkd
  have st2 := st1.ext x2
  obtain ⟨vo', g1', g2'⟩ := st2.val (slotD hg)
  rw [g1] at g1'
  cases g1'
  rw [ht] at g2'
  refine ⟨S, O2, i, d, kd, vd, z, g2', r2, Rep.kp x2.kpV _ _ r1, e1, fun H' wr o' => ?_⟩
  exact kr.nx _ rfl _ _ _ _ ((x1.step.trans x2.step).trans wr.step) (st2.wr wr g1 (by rw [ht]; exact o')) q1
theorem own1L_at {S : Sx} {O : Lab} {H : Hp} {l : Nat} : ∀ {xs : List DL.D} {qs : List Addr} {j : Nat} {y : DL.D}, Own1L S O H l xs qs → xs[j]? = some y → ∃ q vs ys, qs[j]? = some q ∧ y = .lst ys ∧ O q = some l ∧ H q = some (.lst vs) ∧ vs.length ≤ sizeLine ∧ RepL S.ds (LV O) H ys vs
  | _, _, _, _, .nil, e => by simp at e
  | _, _, 0, _, .cons h0 h1 h2 h3 t, e => by simp at e; exact ⟨_, _, _, rfl, e.symm, h0, h1, h2, h3⟩
  | _, _, j + 1, y, .cons h0 h1 h2 h3 t, e => by
    obtain ⟨q, vs, ys, a1, a2⟩ := own1L_at (j := j) (y := y) t (by simpa using e)
    exact ⟨q, vs, ys, by simpa using a1, a2⟩
theorem own1L_set {S : Sx} {O : Lab} {H : Hp} {i : Nat} {p : Addr} {us ws : List V} {ys : List DL.D} (h1 : O p = some (i + 3)) (h2 : H p = some (.lst us)) (hz : ws.length ≤ sizeLine) (r : RepL S.ds (LV O) (upd H p (.lst ws)) ys ws) : ∀ {xs : List DL.D} {qs : List Addr} {j : Nat}, Own1L S O H (i + 3) xs qs → qs.Nodup → qs[j]? = some p → Own1L S O (upd H p (.lst ws)) (i + 3) (xs.set j (.lst ys)) qs := by
  have wr : Wr O H (upd H p (.lst ws)) i := ⟨p, _, _, h1, h2, .inl ⟨_, rfl⟩, rfl⟩
  have off : ∀ {xs : List DL.D} {qs : List Addr}, p ∉ qs → Own1L S O H (i + 3) xs qs → Own1L S O (upd H p (.lst ws)) (i + 3) xs qs := by
    intro xs
    induction xs with
    | nil => intro qs _ h; cases h; exact .nil
    | cons x xs ih =>
      intro qs hn h
      cases h with
      | cons g0 g1 g2 g3 t =>
        rw [List.mem_cons, not_or] at hn
        exact .cons g0 (by rw [upd_ne (Ne.symm hn.1)]; exact g1) g2 (RepL.kp wr.kp _ _ g3) (ih hn.2 t)
  intro xs
  induction xs with
  | nil => intro qs j h nd e; cases h; simp at e
  | cons x xs ih =>
    intro qs j h nd e
    cases h with
    | @cons _ q _ _ qs g0 g1 g2 g3 t =>
      rw [List.nodup_cons] at nd
      cases j with
      | zero =>
        simp at e
        subst e
        exact .cons h1 upd_same hz r (off nd.1 t)
      | succ j =>
        have e' : qs[j]? = some p := by simpa using e
        have hne : q ≠ p := fun z => nd.1 (by rw [z]; exact List.mem_of_getElem? e')
        exact .cons g0 (by rw [upd_ne hne]; exact g1) g2 (RepL.kp wr.kp _ _ g3) (ih t nd.2 e')
theorem ss_setix2 {i : Nat} {kx kx2 e : Ex} {x : Str} {xp q q2 p : Pos} {k' k2' v : Expr} (ht : tg T i = 2) (hv : varB c i x = true) (hfk : frm k' = true) (hfk2 : frm k2' = true) (hf : frm v = true) (hk : PE X k' (tE Γ n T 4 kx)) (hk2 : PE X k2' (tE Γ n T 4 kx2)) (he : PE X v (tE Γ n T 0 e)) :
    PS X (.Assign [.Subscript (.Subscript (.Name x xp) k' q) k2' q2] v p) (tSm Γ n T (some T) Tl (.setix2 i kx kx2 e)) := by
  obtain ⟨h1, h2, h3, h4⟩ := w.name hv
  refine (ps_asg he (pg_sub (pe_ix ix_list (pe_var h1 h2 h3 h4) hk (frm_ix hfk)) hk2 set_R (asg_sub hfk2)) (sw_sole hf (fun _ _ z => by cases z)) (stores_none (.inr (fun _ _ _ z => by cases z)) (fun _ _ z => by cases z))).weak ?_
  rintro D σ H ⟨S, O, ρ, K, st, h, kr⟩
  rw [wpS] at h
  obtain ⟨d, hg, h⟩ := h.get
  refine ⟨S, O, ρ, st.e, wpE.mono w.mono e ρ (fun vd hvd => Ext.res fun O1 H1 v1 x1 r1 => ?_) h⟩
  have st1 := st.ext x1
  obtain ⟨vo, g1, g2⟩ := st1.val (slotD hg)
  refine ⟨vo, g1, S, O1, ρ, st1.e, wpE.mono w.mono kx ρ (fun kd hkd => Ext.res fun O2 H2 v2 x2 r2 => ?_) hvd⟩
  obtain ⟨row, e1, q1⟩ := Opt.get hkd
  unfold rowD at e1
  split at e1
  · rename_i xs ki
    obtain ⟨j, e2, e3⟩ := Option.bind_eq_some_iff.mp e1
    have st2 := st1.ext x2
    obtain ⟨vo', g1', g2'⟩ := st2.val (slotD hg)
    rw [g1] at g1'
    cases g1'
    rw [ht] at g2'
    obtain ⟨a, qs, rfl, n1, g, zl, nd, ow⟩ := (show Own2 S O2 H2 (i + 3) (.lst xs) vo from g2')
    obtain rfl := rep_int r2
    obtain ⟨pr, us, ys, b1, rfl, b2, b3, b4, b5⟩ := own1L_at w ow e3
    have hl := ow.length
    refine ⟨a, qs.map V.ref, ki, .ref pr, rfl, rfl, SqL.of g, ?_, ?_⟩
    · unfold atI
      rw [List.length_map, ← hl, show ixN xs.length ki = some j from e2]
      simp [b1]
    · refine ⟨S, O2, ρ, st2.e, wpE.mono w.mono kx2 ρ (fun kd2 hkd2 => Ext.res fun O3 H3 v3 x3 r3 => ?_) q1⟩
      obtain ⟨z, e4, q2⟩ := Opt.get hkd2
      obtain ⟨ki2, rfl⟩ : ∃ i, kd2 = .int i := by cases kd2 <;> first | exact ⟨_, rfl⟩ | cases e4
      replace e4 : ((ixAt xs.length ki).bind fun j => (ixAt ys.length ki2).map fun j' => DL.D.lst (xs.set j (.lst (ys.set j' vd)))) = some z := e4
      · skip
        obtain ⟨j', e5, e6⟩ := Option.bind_eq_some_iff.mp e4
        obtain ⟨j2, e7, e8⟩ := Option.map_eq_some_iff.mp e6
        have ej : j' = j := by rw [e2] at e5; exact (Option.some.inj e5).symm
        subst ej
        subst e8
        obtain rfl := rep_int r3
        have st3 := st2.ext x3
        have ow3 := ow.ext x3 (by omega)
        have c2 : O3 pr = some (i + 3) := by rw [x3.lab b3]; exact b2
        have c3 := x3.old b3 (by rw [b2]; simp)
        have c5 := RepL.kp x3.kpV _ _ b5
        have rv : Rep S.ds (LV O3) H3 vd v1 := Rep.kp x3.kpV _ _ (Rep.kp x2.kpV _ _ r1)
        have wr : Wr O3 H3 (upd H3 pr (.lst (us.set j2 v1))) i := ⟨pr, _, _, c2, c3, .inl ⟨_, rfl⟩, rfl⟩
        refine ⟨pr, us, ki2, j2, rfl, rfl, c3, by rw [← b5.length]; exact e7, ?_⟩
        have ga := x3.old g (by rw [n1]; simp)
        have hne : a ≠ pr := fun z => (List.nodup_cons.mp nd).1 (by rw [z]; exact List.mem_of_getElem? b1)
        refine kr.nx _ rfl _ _ _ _ (((x1.step.trans x2.step).trans x3.step).trans wr.step) (st3.wr wr g1 ?_) q2
        rw [ht]
        refine ⟨a, qs, rfl, by rw [x3.lab g]; exact n1, by rw [upd_ne hne]; exact ga, zl, nd, own1L_set w c2 c3 (by rw [List.length_set]; exact b4) ((RepL.kp wr.kp _ _ c5).set j2 (Rep.kp wr.kp _ _ rv)) ow3 (List.nodup_cons.mp nd).2 b1⟩
  · cases e1
theorem ss_app {i : Nat} {e : Ex} {x : Str} {xp ap cp p : Pos} {e' : Expr} (ht : tg T i = 1) (hv : varB c i x = true) (hl : (ap.endLine == cp.line) = true) (hs : isStar e' = false) (he : PE X e' (tE Γ n T 0 e)) : PS X (.Expr (.Call (.Attribute (.Name x xp) "append" ap) [e'] [] cp) p) (tSm Γ n T (some T) Tl (.app i e)) := by
  obtain ⟨h1, h2, h3, h4⟩ := w.name hv
  have hp := pe_bm (T := "list") (name := "append") (id := "list.append") (apos := ap) (cpos := cp) PySem.F.plainAttrs_list PySem.F.slot_list_append PySem.F.type_list_append (mt_append (X := X)) (pe_var (pos := xp) h1 h2 h3 h4) (pa_cons he pa_nil (star_cons hs)) rfl (by
      rw [star_all (by simp [hs])]
      rfl) hl (star_cons hs) rfl
  refine (ps_expr hp rfl).weak ?_
  rintro D σ H ⟨S, O, ρ, K, st, h, kr⟩
  rw [wpS] at h
  obtain ⟨d, hg, hd, h⟩ := h.get
  obtain ⟨vo, g1, g2⟩ := st.val (slotD hg)
  rw [ht] at g2
  cases d with
  | lst xs =>
    obtain ⟨a, vs, rfl, n1, g, zl, it⟩ := (show Own1 S O H (i + 3) (.lst xs) vo from g2)
    refine ⟨_, g1, .inl ⟨rfl, vs, SqL.of g⟩, S, O, ρ, st.e, wpE.mono w.mono e ρ (fun vd hvd => Ext.res fun O1 H1 v1 x1 r1 => ?_) h⟩
    obtain ⟨z, e1, q1⟩ := Opt.get hvd
    simp only [appD] at e1
    by_cases hz : xs.length < sizeLine
    · rw [if_pos hz] at e1
      obtain rfl := Option.some.inj e1
      have hlen := it.length
      have n1' : O1 a = some (i + 3) := by rw [x1.lab g]; exact n1
      have g' := x1.old g (by rw [n1]; simp)
      have wr : Wr O1 H1 (upd H1 a (.lst (vs ++ [v1]))) i := ⟨a, _, _, n1', g', .inl ⟨_, rfl⟩, rfl⟩
      refine ⟨a, vs, v1, rfl, rfl, g', by omega, ?_⟩
      refine kr.nx _ rfl _ _ _ _ (x1.step.trans wr.step) ((st.ext x1).wr wr g1 ?_) q1
      rw [ht]
      exact ⟨a, _, rfl, n1', upd_same, by rw [List.length_append]; simp; omega, RepL.append (RepL.kp wr.kp _ _ (RepL.kp x1.kpV _ _ it)) (.cons (Rep.kp wr.kp _ _ r1) .nil)⟩
    · rw [if_neg hz] at e1
      cases e1
  | _ => cases hd
theorem ss_ret {e : Ex} {e' : Expr} {p : Pos} (he : PE X e' (tE Γ n T 0 e)) : PS X (.Return (some e') p) (tSm Γ n T Tn Tl (.ret e)) := by
  refine (ps_ret he).weak ?_
  rintro D σ H ⟨S, O, ρ, K, st, h, kr⟩
  rw [wpS] at h
  exact ⟨S, O, ρ, st.e, wpE.mono w.mono e ρ (fun vd hvd => Ext.res fun O1 H1 v1 x1 r1 => kr.rt _ _ _ _ x1.step r1 hvd) h⟩
theorem ss_iff {t : Ex} {a b : Ss} {t' : Expr} {a' b' : List Stmt} {p : Pos} {Ta Tb : Option Tags} (hj : joinT Ta Tb = some Tn) (ht : PT X t' (tT Γ n T t)) (ha : PSs X a' (tSms Γ n T Ta Tl a)) (hb : PSs X b' (tSms Γ n T Tb Tl b)) : PS X (.If t' a' b' p) (tSm Γ n T Tn Tl (.iff t a b)) := by
  refine (ps_if ht ha hb).weak ?_
  rintro D σ H ⟨S, O, ρ, K, st, h, kr⟩
  rw [wpS] at h
  have ja : ∀ T', Ta = some T' → Tn = some T' := fun T' e => by
    subst e
    unfold joinT at hj
    cases Tb with
    | none => exact (Option.some.inj hj).symm
    | some T2 =>
      simp only at hj
      split at hj
      · exact (Option.some.inj hj).symm
      · cases hj
  have jb : ∀ T', Tb = some T' → Tn = some T' := fun T' e => by
    subst e
    unfold joinT at hj
    cases Ta with
    | none => exact (Option.some.inj hj).symm
    | some T2 =>
      simp only at hj
      split at hj
      · rename_i q; rw [← q]; exact (Option.some.inj hj).symm
      · cases hj
  refine ⟨S, O, ρ, st.e, wpE.mono w.mono t ρ (fun d hd => ?_) h⟩
  obtain ⟨z, rfl, g⟩ := dB_get hd
  intro O1 H1 x1
  have kr1 := kr.step x1.step
  cases z
  · rw [if_neg (by simp)] at g ⊢
    exact ⟨S, O1, ρ, K, st.ext x1, g, fun T' e => kr1.nx T' (jb T' e), kr1.rt, kr1.bk, kr1.ct⟩
  · rw [if_pos rfl] at g ⊢
    exact ⟨S, O1, ρ, K, st.ext x1, g, fun T' e => kr1.nx T' (ja T' e), kr1.rt, kr1.bk, kr1.ct⟩
theorem ss_for {pt : Pat} {it : It} {b : Ss} {tg' iter : Expr} {body : List Stmt} {p : Pos} {Tb : Option Tags} (hp : mPat c pt tg' = true) (h0 : ∀ i ∈ patSlots pt, tg T i = 0) (hlk : ∀ σ H, LkI it σ H) (hi : PI X tg' iter (tI Γ n T 0 it)) (hfo : ∀ z, foldedSetIterable iter X.env z = pure z) (hTb : ∀ T', Tb = some T' → T' = T) (hb : PSs X body (tSms Γ n T Tb T b)) : PS X (.For tg' iter body [] p) (tSm Γ n T (some T) Tl (.for_ pt it b)) := by
  refine (ps_for w.po w.calm hi (pg_pat w pt tg' hp) hb hfo).weak ?_
  rintro D σ H ⟨S, O, ρ, K, st, h, kr⟩
  rw [wpS] at h
  refine ⟨hlk σ H, S, O, ρ, st.e, wpIt.mono w.mono it ρ (fun ds hds O1 H1 J x1 wd => ?_) h⟩
  obtain ⟨⟨G, Y, walk, hG, hY⟩, hsh⟩ := wd
  refine for_it walk (fun i σ' H' => ∃ O' ρ', Step S O1 H1 O' H' ∧ StS S n T O' ρ' σ' H' ∧ wpLoop (fun d ρ K => bindPat pt d ρ fun ρ' => wpSs Γ b ρ' K) (ds.drop i) ρ' K) ?_ ?_ ?_ ?_
  · exact ⟨O1, ρ, Step.refl, st.ext x1, hds⟩
  · rintro i σ' H' _ ⟨O', ρ', x, _⟩
    exact hG O' H' (by unfold Pk; rw [if_pos rfl]; exact x)
  · rintro i x σ' Hc H' hi' ⟨O', ρ', xc, st', hw⟩ hy
    have hd : ds[i]? = some ds[i] := List.getElem?_eq_getElem hi'
    rw [List.drop_eq_getElem_cons hi', wpLoop] at hw
    obtain ⟨O2, x2, r⟩ := hY i O' Hc x H' _ (by unfold Pk; rw [if_pos rfl]; exact xc) hd hy
    refine gPat_sem (K := X.K) (R := fun ρ' σ' => StS S n T O2 ρ' σ' H') pt (fun j hj ρ' σ' d v hR rr => hR.pat (h0 j hj) rr) r (st'.ext x2) hw fun ρ2 σ2 hR hk => ?_
    have x02 := xc.trans x2.step
    refine ⟨S, O2, ρ2, _, hR, hk, fun T' e O3 H3 ρ3 σ3 x3 st3 hn => ?_, fun O3 H3 d v x3 r3 hr => ?_, fun O3 H3 ρ3 σ3 x3 st3 hn => ?_, fun O3 H3 ρ3 σ3 x3 st3 hn => ?_⟩
    · obtain rfl := hTb T' e
      exact ⟨O3, ρ3, x02.trans x3, st3, hn⟩
    · exact kr.rt _ _ _ _ ((x1.step.trans x02).trans x3) r3 hr
    · exact kr.nx _ rfl _ _ _ _ ((x1.step.trans x02).trans x3) st3 hn
    · exact ⟨O3, ρ3, x02.trans x3, st3, hn⟩
  · rintro σ' Hf ⟨O', ρ', xc, st', hw⟩
    rw [List.drop_length, wpLoop] at hw
    exact kr.nx _ rfl _ _ _ _ (x1.step.trans xc) st' hw
end
end DL
/-! DL, part Zj: two at once; every matched statement has its reading. -/
namespace DL
open PySem PySem.Spec PyProof.Rows L2 PySem.W
theorem own1_relab {S : Sx} {O : Lab} {H : Hp} {as : List Addr} {l : Nat} {d : DL.D} {v : V} (h2 : ∀ a ∈ as, O a = some 2) (h : Own1 S O H 2 d v) (hn : isC d = true → ∀ p, v = .ref p → p ∉ as) : Own1 S (relabs O as l) H 2 d v := by
  cases d with
  | lst xs => obtain ⟨p, vs, rfl, n, r, z, i⟩ := h; exact ⟨p, vs, rfl, by rw [relabs_ne (hn rfl p rfl)]; exact n, r, z, RepL.kp (relabs_kp h2) _ _ i⟩
  | dK xs => obtain ⟨p, vs, rfl, n, r, z, i⟩ := h; exact ⟨p, vs, rfl, by rw [relabs_ne (hn rfl p rfl)]; exact n, r, z, RepK.kp (relabs_kp h2) _ _ i⟩
  | dT xs => obtain ⟨p, vs, rfl, n, r, z, i⟩ := h; exact ⟨p, vs, rfl, by rw [relabs_ne (hn rfl p rfl)]; exact n, r, z, RepT.kp (relabs_kp h2) _ _ i⟩
  | _ => exact Rep.kp (relabs_kp h2) _ _ h
theorem own1_dom {S : Sx} {O : Lab} {H : Hp} {l : Nat} {d : DL.D} {p : Addr} (h : Own1 S O H l d (.ref p)) (c : isC d = true) : ∃ o, H p = some o := by
  cases d with
  | lst xs => obtain ⟨p, vs, e, n, r, z, i⟩ := h; cases e; exact ⟨_, r⟩
  | dK xs => obtain ⟨p, vs, e, n, r, z, i⟩ := h; cases e; exact ⟨_, r⟩
  | dT xs => obtain ⟨p, vs, e, n, r, z, i⟩ := h; cases e; exact ⟨_, r⟩
  | _ => cases c
theorem frm_const {e : Expr} : isStar e = false → (match e with | .Starred _ _ => true | _ => false) = false := by
  intro h; cases e <;> first | rfl | cases h
theorem sw_two {env : Env} {x y : Str} {px py : Pos} {k1 k2 : Nat} {q1 q2 : Pos} {a b : Expr} (hk : env.blockKind = .function) (hx : env.kindOf x = some .local) (hy : env.kindOf y = some .local) (hl : py.line = px.line) (hxy : x ≠ y) (ha : isStar a = false) (hb : isStar b = false) (hf : [a, b].all (foldedForSure 8) = false) (hc : [a, b].all (constantsAlone 8) = false) :
    swappedStores [.Tuple [.Name x px, .Name y py] k1 q1] (.Tuple [a, b] k2 q2) env = pure (some [x, y]) := by
  unfold swappedStores
  have hd : ([x, y].eraseDups).length = 2 := by
    rw [List.eraseDups_cons]
    have : (y == x) = false := by simpa using Ne.symm hxy
    simp [this, List.eraseDups_cons]
  have h1 : ([a, b].any fun e => match e with | .Starred _ _ => true | _ => false) = false := by
    rw [List.any_cons, List.any_cons]
    rw [frm_const ha, frm_const hb]
    rfl
  have hf' : (foldedForSure 8 a && (foldedForSure 8 b && true)) = false := hf
  have hc' : (constantsAlone 8 a && (constantsAlone 8 b && true)) = false := hc
  have hp1 : (Expr.Name x px).pos = px := rfl
  simp [hk, hx, hy, hl, hd, hp1]
  rw [if_neg, if_neg, if_neg]
  · rintro ⟨z1, z2⟩; rw [z1, z2] at hc'; cases hc'
  · rintro ⟨z1, z2⟩; rw [z1, z2] at hf'; cases hf'
  · rintro (z | z)
    · exact Bool.noConfusion ((frm_const ha).symm.trans z)
    · exact Bool.noConfusion ((frm_const hb).symm.trans z)
section
variable {X : Cx} {Γ : Gam} {F : Str → Bool} {k : Nat} {c : SC} (w : WOk X Γ F k c) {n : Nat} {T Tl : Tags} {Tn : Option Tags}
include w
omit w in
/-- two values are stored -/
theorem par_nx {i t j u : Nat} {S : Sx} {O O1 O2 : Lab} {H H1 H2 : Hp} {ρ : DEnv} {σ : L2.St} {K : Kn} {D : Ends} {d1 d2 : DL.D} {v1 v2 : V} (hi : i < T.length) (hj : j < T.length) (ht : t ≤ 1) (hu : u ≤ 1) (st : StS S n T O ρ σ H) (kr : KR n S O H K (some ((T.set i t).set j u)) Tl D) (x1 : Ext S O H O1 H1) (r1 : RepM (tmode t) S O1 H1 d1 v1) (x2 : Ext S O1 H1 O2 H2) (r2 : RepM (tmode u) S O2 H2 d2 v2) (n2 : NewR (tmode u) H1 d2 v2) (q : K.nx ((ρ.set i (some d1)).set j (some d2))) : D.nx ((σ.set i (some v1)).set j (some v2)) H2 := by
  have r1' := r1.ext x2
  obtain ⟨as, g2, sv, e0, e1⟩ := own_addrs i r1'
  have sts := (((st.ext x1).ext x2).relabs (l := i + 3) g2).put hi sv
  have r2' : RepM (tmode u) S (relabs O2 as (i + 3)) H2 d2 v2 := by
    match u, hu, r2, n2 with
    | 0, _, r2, n2 => exact Rep.kp (relabs_kp g2) _ _ (show Rep S.ds (LV O2) H2 d2 v2 from r2)
    | 1, _, r2, n2 =>
      refine own1_relab g2 r2 fun hc p hv hp => ?_
      have e2 := n2 (.inl rfl) hc p hv
      rcases (show t = 0 ∨ t = 1 by omega) with ht0 | ht1
      · rw [e0 ht0] at hp; cases hp
      · subst ht1
        obtain ⟨g5, g6⟩ := e1 rfl p hp
        rw [g6] at r1
        obtain ⟨o, g7⟩ := own1_dom r1 g5
        rw [e2] at g7
        cases g7
  obtain ⟨as2, g3, sv2, _, _⟩ := own_addrs j r2'
  exact kr.nx _ rfl _ _ _ _ (((x1.step.trans x2.step).trans (relabs_step g2)).trans (relabs_step g3)) ((sts.relabs g3).put (by rw [List.length_set]; exact hj) sv2) q
theorem ss_par {i t j u : Nat} {a b : Ex} {x y : Str} {px py q1 q2 p : Pos} {k1 k2 : Nat} {a' b' : Expr} (hi : i < T.length) (hj : j < T.length) (hij : i ≠ j) (ht : t ≤ 1) (hu : u ≤ 1) (hx : stoB c i x = true) (hy : stoB c j y = true) (hfa : frm a' = true) (hfb : frm b' = true) (hp : parB c x y px py a' b' = true) (ha : PE X a' (tE Γ n T (tmode t) a)) (hb : PE X b' (tE Γ n T (tmode u) b)) :
    PS X (.Assign [.Tuple [.Name x px, .Name y py] k1 q1] (.Tuple [a', b'] k2 q2) p) (tSm Γ n T (some ((T.set i t).set j u)) Tl (.par i t j u a b)) := by
  obtain ⟨b1, b2, b3⟩ := w.sto hx
  obtain ⟨c1, c2, c3⟩ := w.sto hy
  unfold parB at hp
  simp only [Bool.and_eq_true, beq_iff_eq, Bool.not_eq_true'] at hp
  obtain ⟨⟨⟨h1, h2, h3⟩, h4, h5⟩, h6, h7⟩ := hp
  rw [← w.hsc] at h1 h2 h3
  have hbk : X.env.blockKind = .function := by
    unfold Env.blockKind
    rw [h1]
    rfl
  refine (ps_par w.calm w.nd b1 c1 hij h2 h3 (pa_cons ha (pa_cons hb pa_nil (star_cons (frm_star hfb))) (star_cons (frm_star hfa))) (sw_two hbk h2 h3 h4 (by simpa using h5) (frm_star hfa) (frm_star hfb) h6 h7) (sw_sole (tg := .Tuple [.Name x px, .Name y py] k1 q1) (e := .Tuple [a', b'] k2 q2) rfl (fun _ _ z => by cases z))).weak ?_
  rintro D σ H ⟨S, O, ρ, K, st, h, kr⟩
  rw [wpS] at h
  refine ⟨S, O, ρ, st.e, wpE.mono w.mono a ρ (fun d1 hd1 => ?_) h⟩
  intro O1 H1 v1 x1 r1 n1
  refine ⟨S, O1, ρ, (st.ext x1).e, wpE.mono w.mono b ρ (fun d2 hd2 => ?_) hd1⟩
  intro O2 H2 v2 x2 r2 n2
  refine ⟨v1, v2, rfl, ?_⟩
  exact par_nx hi hj ht hu st kr x1 r1 x2 r2 n2 hd2
omit w in
theorem sw_twoU {env : Env} {x y : Str} {px py : Pos} {k1 k2 : Nat} {q1 q2 : Pos} {a b : Expr} (h : env.kindOf x ≠ some .local ∨ env.kindOf y ≠ some .local) :
    swappedStores [.Tuple [.Name x px, .Name y py] k1 q1] (.Tuple [a, b] k2 q2) env = pure none := by
  unfold swappedStores
  have hp1 : (Expr.Name x px).pos = px := rfl
  simp only [pure_bind]
  split
  · rfl
  split
  · rfl
  rw [if_pos]
  rw [Bool.or_eq_true]
  left
  rcases h with h | h <;>
  · have hx := beq_eq_false_iff_ne.mpr h
    simp only [List.filterMap, hx, Bool.false_and, Bool.false_eq_true, if_false]
    split <;> rfl
theorem ss_parU {i t j u : Nat} {a b : Ex} {x y : Str} {px py q1 q2 p : Pos} {k1 k2 : Nat} {a' b' : Expr} (hi : i < T.length) (hj : j < T.length) (ht : t ≤ 1) (hu : u ≤ 1) (hx : stoB c i x = true) (hy : stoB c j y = true) (hfa : frm a' = true) (hfb : frm b' = true) (hp : parU c x y = true) (ha : PE X a' (tE Γ n T (tmode t) a)) (hb : PE X b' (tE Γ n T (tmode u) b)) :
    PS X (.Assign [.Tuple [.Name x px, .Name y py] k1 q1] (.Tuple [a', b'] k2 q2) p) (tSm Γ n T (some ((T.set i t).set j u)) Tl (.par i t j u a b)) := by
  have hpat : mPat c (.pn [i, j]) (.Tuple [.Name x px, .Name y py] k1 q1) = true := by
    unfold mPat
    show (decide _ && (stoB c i x && (stoB c j y && true))) = true
    rw [hx, hy]
    rfl
  have hk : X.env.kindOf x ≠ some .local ∨ X.env.kindOf y ≠ some .local := by
    unfold parU at hp
    rw [← w.hsc] at hp
    rw [Bool.or_eq_true, Bool.not_eq_true', Bool.not_eq_true', beq_eq_false_iff_ne, beq_eq_false_iff_ne] at hp
    exact hp
  refine (ps_asg (pe_tupG (pa_cons ha (pa_cons hb pa_nil (star_cons (frm_star hfb))) (star_cons (frm_star hfa)))) (pg_pat w (.pn [i, j]) _ hpat) (sw_sole (tg := .Tuple [.Name x px, .Name y py] k1 q1) (e := .Tuple [a', b'] k2 q2) rfl (fun _ _ z => by cases z)) (sw_twoU hk)).weak ?_
  rintro D σ H ⟨S, O, ρ, K, st, h, kr⟩
  rw [wpS] at h
  refine ⟨S, O, ρ, st.e, wpE.mono w.mono a ρ (fun d1 hd1 => ?_) h⟩
  intro O1 H1 v1 x1 r1 n1
  refine ⟨S, O1, ρ, (st.ext x1).e, wpE.mono w.mono b ρ (fun d2 hd2 => ?_) hd1⟩
  intro O2 H2 v2 x2 r2 n2
  refine ⟨by show 2 ≤ sizeLine; decide, fun q o hq ho => ?_⟩
  have x3 : Ext S O2 H2 (relab O2 q none) (upd H2 q (.frz o (.tup [v1, v2]))) := Ext.new hq
  refine ⟨q, [v1, v2], rfl, .inl (.inl (.inr ⟨_, upd_same⟩)), rfl, ?_⟩
  show gNames [i, j] [v1, v2] σ _ _
  refine ⟨v1, [v2], rfl, v2, [], rfl, rfl, ?_⟩
  exact par_nx hi hj ht hu st kr x1 r1 (x2.trans x3) (r2.ext x3) n2 hd2
omit w in
theorem re_own {S : Sx} {O : Lab} {H : Hp} {as : List Addr} {l u : Nat} {d : DL.D} {v : V} (hu : u ≤ 1) (g : ∀ a ∈ as, O a = some 2) (r : RepM (tmode u) S O H d v) (hn : u = 1 → isC d = true → ∀ p, v = .ref p → p ∉ as) : RepM (tmode u) S (relabs O as l) H d v := by
  match u, hu, r, hn with
  | 0, _, r, _ => exact Rep.kp (relabs_kp g) _ _ (show Rep S.ds (LV O) H d v from r)
  | 1, _, r, hn => exact own1_relab g r (hn rfl)
omit w in
theorem as_dom {S : Sx} {O : Lab} {H : Hp} {as : List Addr} {t : Nat} {d : DL.D} {v : V} (ht : t ≤ 1) (r : RepM (tmode t) S O H d v) (e0 : t = 0 → as = []) (e1 : t = 1 → ∀ a ∈ as, isC d = true ∧ v = .ref a) : ∀ p ∈ as, ∃ o, H p = some o := by
  intro p hp
  rcases (show t = 0 ∨ t = 1 by omega) with h | h
  · rw [e0 h] at hp; cases hp
  · subst h
    obtain ⟨g5, g6⟩ := e1 rfl p hp
    rw [g6] at r
    exact own1_dom r g5
omit w in
theorem new_not {as : List Addr} {H : Hp} {u : Nat} {d : DL.D} {v : V} (n : NewR (tmode u) H d v) (hd : ∀ p ∈ as, ∃ o, H p = some o) : u = 1 → isC d = true → ∀ p, v = .ref p → p ∉ as := by
  intro hu hc p hv hp
  subst hu
  have e2 := n (.inl rfl) hc p hv
  obtain ⟨o, e⟩ := hd p hp
  rw [e2] at e
  cases e
omit w in
theorem par_nx3 {i t j u k' v' : Nat} {S : Sx} {O O1 O2 O3 : Lab} {H H1 H2 H3 : Hp} {ρ : DEnv} {σ : L2.St} {K : Kn} {D : Ends} {d1 d2 d3 : DL.D} {v1 v2 v3 : V} (hi : i < T.length) (hj : j < T.length) (hk : k' < T.length) (ht : t ≤ 1) (hu : u ≤ 1) (hv : v' ≤ 1) (st : StS S n T O ρ σ H) (kr : KR n S O H K (some (((T.set i t).set j u).set k' v')) Tl D) (x1 : Ext S O H O1 H1) (r1 : RepM (tmode t) S O1 H1 d1 v1) (x2 : Ext S O1 H1 O2 H2) (r2 : RepM (tmode u) S O2 H2 d2 v2) (n2 : NewR (tmode u) H1 d2 v2) (x3 : Ext S O2 H2 O3 H3) (r3 : RepM (tmode v') S O3 H3 d3 v3) (n3 : NewR (tmode v') H2 d3 v3) (q : K.nx (((ρ.set i (some d1)).set j (some d2)).set k' (some d3))) : D.nx (((σ.set i (some v1)).set j (some v2)).set k' (some v3)) H3 := by
  obtain ⟨as, g1, sv1, e0, e1⟩ := own_addrs i ((r1.ext x2).ext x3)
  have s1 := ((((st.ext x1).ext x2).ext x3).relabs (l := i + 3) g1).put hi sv1
  have d1' := as_dom ht r1 e0 e1
  have d2' : ∀ p ∈ as, ∃ o, H2 p = some o := fun p hp => let ⟨o, e⟩ := d1' p hp; x2.step.dom e
  have r2' := re_own (l := i + 3) hu g1 (r2.ext x3) (new_not n2 d1')
  have r3' := re_own (l := i + 3) hv g1 r3 (new_not n3 d2')
  obtain ⟨bs, g2, sv2, f0, f1⟩ := own_addrs j r2'
  have s2 := (s1.relabs (l := j + 3) g2).put (by rw [List.length_set]; exact hj) sv2
  have d3' := as_dom hu r2 f0 f1
  have r3'' := re_own (l := j + 3) hv g2 r3' (new_not n3 d3')
  obtain ⟨cs, g3, sv3, _, _⟩ := own_addrs k' r3''
  have s3 := (s2.relabs (l := k' + 3) g3).put (by rw [List.length_set, List.length_set]; exact hk) sv3
  exact kr.nx _ rfl _ _ _ _ (((((x1.step.trans x2.step).trans x3.step).trans (relabs_step g1)).trans (relabs_step g2)).trans (relabs_step g3)) s3 q
omit w in
theorem sw_three {env : Env} {x y z : Str} {px py pz : Pos} {k1 k2 : Nat} {q1 q2 : Pos} {a b e : Expr} (hk : env.blockKind = .function) (hx : env.kindOf x = some .local) (hy : env.kindOf y = some .local) (hz : env.kindOf z = some .local) (hl : py.line = px.line) (hl2 : pz.line = px.line) (hxy : x ≠ y) (hxz : x ≠ z) (hyz : y ≠ z) (ha : isStar a = false) (hb : isStar b = false) (he : isStar e = false) (hf : [a, b, e].all (foldedForSure 8) = false) (hc : [a, b, e].all (constantsAlone 8) = false) :
    swappedStores [.Tuple [.Name x px, .Name y py, .Name z pz] k1 q1] (.Tuple [a, b, e] k2 q2) env = pure (some [x, y, z]) := by
  unfold swappedStores
  have hd : ([x, y, z].eraseDups).length = 3 := by
    rw [List.eraseDups_cons]
    have h1 : (y == x) = false := by simpa using Ne.symm hxy
    have h2 : (z == x) = false := by simpa using Ne.symm hxz
    have h3 : (z == y) = false := by simpa using Ne.symm hyz
    simp [h1, h2, h3, List.eraseDups_cons]
  have hf' : (foldedForSure 8 a && (foldedForSure 8 b && (foldedForSure 8 e && true))) = false := hf
  have hc' : (constantsAlone 8 a && (constantsAlone 8 b && (constantsAlone 8 e && true))) = false := hc
  have hp1 : (Expr.Name x px).pos = px := rfl
  simp [hk, hx, hy, hz, hl, hl2, hd, hp1]
  rw [if_neg, if_neg, if_neg]
  · rintro ⟨z1, z2, z3⟩; rw [z1, z2, z3] at hc'; cases hc'
  · rintro ⟨z1, z2, z3⟩; rw [z1, z2, z3] at hf'; cases hf'
  · rintro (z | z | z)
    · exact Bool.noConfusion ((frm_const ha).symm.trans z)
    · exact Bool.noConfusion ((frm_const hb).symm.trans z)
    · exact Bool.noConfusion ((frm_const he).symm.trans z)
def tPar3 (i j k : Nat) (ta : TA) : TS := fun D σ H => ta σ H fun vs H1 => ∃ v w z, vs = [v, w, z] ∧ D.nx (((σ.set i (some v)).set j (some w)).set k (some z)) H1
omit w in
theorem ps_par3 {i j k : Nat} {x y z : Str} {a b e : Expr} {ta : TA} {px py pz pt pos : Pos} {kt k2 pt2} (hc : X.calm = true) (hN : X.N.Nodup) (hi : X.N[i]? = some x) (hj : X.N[j]? = some y) (hk : X.N[k]? = some z) (hij : i ≠ j) (hik : i ≠ k) (hjk : j ≠ k)
    (hx : X.env.scope.names.lookup x = some .local) (hy : X.env.scope.names.lookup y = some .local) (hz : X.env.scope.names.lookup z = some .local) (ha : PA X [a, b, e] ta)
    (hw : swappedStores [.Tuple [.Name x px, .Name y py, .Name z pz] kt pt] (.Tuple [a, b, e] k2 pt2) X.env = pure (some [x, y, z]))
    (hs : swapsWithSole [.Tuple [.Name x px, .Name y py, .Name z pz] kt pt] (.Tuple [a, b, e] k2 pt2) pos.line X.env = pure false) :
    PS X (.Assign [.Tuple [.Name x px, .Name y py, .Name z pz] kt pt] (.Tuple [a, b, e] k2 pt2) pos) (tPar3 i j k ta) := by
  refine ⟨fun pins s σ H D I h => ?_⟩
  rw [exec_Assign_arm]
  refine wpAny_bind (wpAny_standAt ?_)
  rw [hs]
  refine wpAny_bind (wpAny_pure ?_)
  rw [if_neg (by decide)]
  refine wpAny_bind (Tuple_ (thn (ha.run _ pins s σ H _ I h) fun us s1 ⟨vs, H1, I1, r1, q1⟩ => ?_))
  obtain ⟨v, w, z', e1, q1⟩ := q1
  subst e1
  obtain ⟨u1, u2, u3, rfl, rv, rw', rz⟩ : ∃ u1 u2 u3, us = [u1, u2, u3] ∧ RelV v u1 ∧ RelV w u2 ∧ RelV z' u3 := by
    cases r1 with
    | cons p q =>
      cases q with
      | cons p' q' =>
        cases q' with
        | cons p2 q2 =>
          cases q2
          exact ⟨_, _, _, rfl, p, p', p2⟩
  refine wpAny_newObj_type ?_ (by show 3 ≤ sizeLine; decide)
  have I2 : Inv X pins σ H1 { s1 with heap := s1.heap.push { cls := .type "tuple", data := .seq [u1, u2, u3].toArray } } := I1.kept (t' := s1.toks) fun b o e => Heap.get?_push_of_some _ e
  rw [hw]
  refine wpAny_bind (wpAny_pure ?_)
  show wpAny (model X.prog X.w) X.A (do rule "assign.swapped-stores"; let items ← unpackItems (.ref s1.heap.objs.size) 3 none; assignInOrder [fun v => bindName X.env z v, fun v => bindName X.env y v, fun v => bindName X.env x v] items.reverse; pure Flow.next) _ _ _
  refine wpAny_bind (wpAny_rule (wpAny_bind (unpackItems_tuple (items := #[u1, u2, u3]) (I.ok.hd hc) (IsTup.new s1.heap _) fun h' hx' => ?_)))
  have I3 := I2.kept (h' := h') (t' := s1.toks) fun b o e => hx' b o (Nat.ne_of_lt (Heap.lt_size e)) e
  show wpAny _ _ (assignInOrder [fun v => bindName X.env z v, fun v => bindName X.env y v, fun v => bindName X.env x v] [u3, u2, u1] >>= fun _ => pure Flow.next) _ _ _
  refine wpAny_bind (assignInOrder_cons (wpAny_bindName (store_ok I3 hN hk (.inl hz) rz (fun s2 I4 => ?_) (.inr hz))))
  refine assignInOrder_cons (wpAny_bindName (store_ok I4 hN hj (.inl hy) rw' (fun s3 I5 => ?_) (.inr hy)))
  refine assignInOrder_cons (wpAny_bindName (store_ok I5 hN hi (.inl hx) rv (fun s4 I6 => assignInOrder_nil (wpAny_pure ?_)) (.inr hx)))
  rw [List.set_comm _ _ (Ne.symm hjk), List.set_comm _ _ (Ne.symm hik), List.set_comm _ _ (Ne.symm hij)] at I6
  exact ⟨_, H1, I6, q1⟩
theorem ss_par3 {i t j u k' v' : Nat} {a b e : Ex} {x y z : Str} {px py pz q1 q2 p : Pos} {k1 k2 : Nat} {a' b' e' : Expr} (hi : i < T.length) (hj : j < T.length) (hk : k' < T.length) (hij : i ≠ j) (hik : i ≠ k') (hjk : j ≠ k') (ht : t ≤ 1) (hu : u ≤ 1) (hv : v' ≤ 1) (hx : stoB c i x = true) (hy : stoB c j y = true) (hz : stoB c k' z = true) (hfa : frm a' = true) (hfb : frm b' = true) (hfe : frm e' = true) (hp : parB3 c x y z px py pz a' b' e' = true) (ha : PE X a' (tE Γ n T (tmode t) a)) (hb : PE X b' (tE Γ n T (tmode u) b)) (he : PE X e' (tE Γ n T (tmode v') e)) :
    PS X (.Assign [.Tuple [.Name x px, .Name y py, .Name z pz] k1 q1] (.Tuple [a', b', e'] k2 q2) p) (tSm Γ n T (some (((T.set i t).set j u).set k' v')) Tl (.par3 i t j u k' v' a b e)) := by
  obtain ⟨b1, b2, b3⟩ := w.sto hx
  obtain ⟨c1, c2, c3⟩ := w.sto hy
  obtain ⟨g1, g2, g3⟩ := w.sto hz
  unfold parB3 at hp
  simp only [Bool.and_eq_true, beq_iff_eq, Bool.not_eq_true'] at hp
  obtain ⟨⟨⟨⟨⟨h1, h2⟩, h3⟩, h4⟩, ⟨⟨⟨h5, h6⟩, h7⟩, h8⟩, h9⟩, h10, h11⟩ := hp
  rw [← w.hsc] at h1 h2 h3 h4
  have hbk : X.env.blockKind = .function := by
    unfold Env.blockKind
    rw [h1]
    rfl
  refine (ps_par3 w.calm w.nd b1 c1 g1 hij hik hjk h2 h3 h4 (pa_cons ha (pa_cons hb (pa_cons he pa_nil (star_cons (frm_star hfe))) (star_cons (frm_star hfb))) (star_cons (frm_star hfa))) (sw_three hbk h2 h3 h4 h5 h6 (by simpa using h7) (by simpa using h8) (by simpa using h9) (frm_star hfa) (frm_star hfb) (frm_star hfe) h10 h11) (sw_sole (tg := .Tuple [.Name x px, .Name y py, .Name z pz] k1 q1) (e := .Tuple [a', b', e'] k2 q2) rfl (fun _ _ z => by cases z))).weak ?_
  rintro D σ H ⟨S, O, ρ, K, st, h, kr⟩
  rw [wpS] at h
  refine ⟨S, O, ρ, st.e, wpE.mono w.mono a ρ (fun d1 hd1 => ?_) h⟩
  intro O1 H1 v1 x1 r1 n1
  refine ⟨S, O1, ρ, (st.ext x1).e, wpE.mono w.mono b ρ (fun d2 hd2 => ?_) hd1⟩
  intro O2 H2 v2 x2 r2 n2
  refine ⟨S, O2, ρ, ((st.ext x1).ext x2).e, wpE.mono w.mono e ρ (fun d3 hd3 => ?_) hd2⟩
  intro O3 H3 v3 x3 r3 n3
  refine ⟨v1, v2, v3, rfl, ?_⟩
  exact par_nx3 hi hj hk ht hu hv st kr x1 r1 x2 r2 n2 x3 r3 n3 hd3
omit w in
theorem sw_threeU {env : Env} {x y z : Str} {px py pz : Pos} {k1 k2 : Nat} {q1 q2 : Pos} {a b e : Expr} (h : env.kindOf x ≠ some .local ∨ env.kindOf y ≠ some .local ∨ env.kindOf z ≠ some .local) :
    swappedStores [.Tuple [.Name x px, .Name y py, .Name z pz] k1 q1] (.Tuple [a, b, e] k2 q2) env = pure none := by
  unfold swappedStores
  have hp1 : (Expr.Name x px).pos = px := rfl
  simp only [pure_bind]
  split
  · rfl
  split
  · rfl
  rw [if_pos]
  rw [Bool.or_eq_true]
  left
  rcases h with h | h | h <;>
  · have hx := beq_eq_false_iff_ne.mpr h
    simp only [List.filterMap, hx, Bool.false_and, Bool.false_eq_true, if_false]
    repeat' split
    all_goals rfl
theorem ss_par3U {i t j u k' v' : Nat} {a b e : Ex} {x y z : Str} {px py pz q1 q2 p : Pos} {k1 k2 : Nat} {a' b' e' : Expr} (hi : i < T.length) (hj : j < T.length) (hk : k' < T.length) (ht : t ≤ 1) (hu : u ≤ 1) (hv : v' ≤ 1) (hx : stoB c i x = true) (hy : stoB c j y = true) (hz : stoB c k' z = true) (hfa : frm a' = true) (hfb : frm b' = true) (hfe : frm e' = true) (hp : parU3 c x y z = true) (ha : PE X a' (tE Γ n T (tmode t) a)) (hb : PE X b' (tE Γ n T (tmode u) b)) (he : PE X e' (tE Γ n T (tmode v') e)) :
    PS X (.Assign [.Tuple [.Name x px, .Name y py, .Name z pz] k1 q1] (.Tuple [a', b', e'] k2 q2) p) (tSm Γ n T (some (((T.set i t).set j u).set k' v')) Tl (.par3 i t j u k' v' a b e)) := by
  have hpat : mPat c (.pn [i, j, k']) (.Tuple [.Name x px, .Name y py, .Name z pz] k1 q1) = true := by
    unfold mPat
    show (decide _ && (stoB c i x && (stoB c j y && (stoB c k' z && true)))) = true
    rw [hx, hy, hz]
    rfl
  have hkk : X.env.kindOf x ≠ some .local ∨ X.env.kindOf y ≠ some .local ∨ X.env.kindOf z ≠ some .local := by
    unfold parU3 at hp
    rw [← w.hsc] at hp
    rw [Bool.or_eq_true, Bool.or_eq_true, Bool.not_eq_true', Bool.not_eq_true', Bool.not_eq_true', beq_eq_false_iff_ne, beq_eq_false_iff_ne, beq_eq_false_iff_ne] at hp
    rcases hp with (hp | hp) | hp
    · exact .inl hp
    · exact .inr (.inl hp)
    · exact .inr (.inr hp)
  refine (ps_asg (pe_tupG (pa_cons ha (pa_cons hb (pa_cons he pa_nil (star_cons (frm_star hfe))) (star_cons (frm_star hfb))) (star_cons (frm_star hfa)))) (pg_pat w (.pn [i, j, k']) _ hpat) (sw_sole (tg := .Tuple [.Name x px, .Name y py, .Name z pz] k1 q1) (e := .Tuple [a', b', e'] k2 q2) rfl (fun _ _ z => by cases z)) (sw_threeU hkk)).weak ?_
  rintro D σ H ⟨S, O, ρ, K, st, h, kr⟩
  rw [wpS] at h
  refine ⟨S, O, ρ, st.e, wpE.mono w.mono a ρ (fun d1 hd1 => ?_) h⟩
  intro O1 H1 v1 x1 r1 n1
  refine ⟨S, O1, ρ, (st.ext x1).e, wpE.mono w.mono b ρ (fun d2 hd2 => ?_) hd1⟩
  intro O2 H2 v2 x2 r2 n2
  refine ⟨S, O2, ρ, ((st.ext x1).ext x2).e, wpE.mono w.mono e ρ (fun d3 hd3 => ?_) hd2⟩
  intro O3 H3 v3 x3 r3 n3
  refine ⟨by show 3 ≤ sizeLine; decide, fun q o hq ho => ?_⟩
  have x4 : Ext S O3 H3 (relab O3 q none) (upd H3 q (.frz o (.tup [v1, v2, v3]))) := Ext.new hq
  refine ⟨q, [v1, v2, v3], rfl, .inl (.inl (.inr ⟨_, upd_same⟩)), rfl, ?_⟩
  show gNames [i, j, k'] [v1, v2, v3] σ _ _
  refine ⟨v1, [v2, v3], rfl, v2, [v3], rfl, v3, [], rfl, rfl, ?_⟩
  exact par_nx3 hi hj hk ht hu hv st kr x1 r1 x2 r2 n2 (x3.trans x4) (r3.ext x4) n3 hd3
end
end DL
/-! DL, part Zja: statements on the drawing source, draws, while. -/
namespace DL
open PySem PySem.Spec PyProof.Rows L2 PySem.W
/-- a part of the source is written -/
structure Wr0 (O : Lab) (H H' : Hp) : Prop where
  ex : ∃ (p : Addr) (o o' : HO), O p = some 0 ∧ H p = some o ∧ ((∃ xs, o = .lst xs) ∨ Shp o) ∧ H' = upd H p o'
section
variable {S : Sx} {O O' : Lab} {H H' : Hp} {n : Nat} {T : Tags} {ρ : DEnv} {σ : L2.St}
theorem Wr0.step (w : Wr0 O H H') (hs : SrcAt S O H') : Step S O H O H' := by
  obtain ⟨p, o, o', h1, h2, h3, rfl⟩ := w.ex
  have nt : ∀ vs, o ≠ .tup vs := fun vs z => by subst z; rcases h3 with ⟨_, h⟩ | h; cases h; exact h
  have nf : ∀ x u, o ≠ .frz x u := fun x u z => by subst z; rcases h3 with ⟨_, h⟩ | h; cases h; exact h
  refine ⟨fun {a u} e n => ?_, fun _ _ => rfl, fun {a u} e => ?_, fun {a vs} e => ?_, fun {a x vs} e => ?_, fun _ => hs⟩
  · rw [upd_ne fun z => by subst z; rcases n with n | n <;> (rw [n] at h1; simp at h1)]
    exact e
  · by_cases z : a = p
    · exact ⟨o', by rw [z]; exact upd_same⟩
    · exact ⟨u, by rw [upd_ne z]; exact e⟩
  · rw [upd_ne (ne_of e h2 (fun z => nt _ z.symm))]; exact e
  · rw [upd_ne (ne_of e h2 (fun z => nf _ _ z.symm))]; exact e
theorem Wr0.kp (w : Wr0 O H H') : Kp (LV O) (LV O) H H' := by
  obtain ⟨p, o, o', h1, h2, h3, rfl⟩ := w.ex
  have nt : ∀ vs, o ≠ .tup vs := fun vs z => by subst z; rcases h3 with ⟨_, h⟩ | h; cases h; exact h
  have nf : ∀ x u, o ≠ .frz x u := fun x u z => by subst z; rcases h3 with ⟨_, h⟩ | h; cases h; exact h
  have ne : ∀ {a : Addr}, O a = none → a ≠ p := fun h z => by rw [z, h1] at h; cases h
  refine ⟨fun {a u} r _ l => ⟨l, ?_⟩, fun {a vs} e l => ⟨l, by rw [upd_ne (ne l)]; exact e⟩, fun a vs e => ?_, fun a x vs e => ?_⟩
  · rcases r with r | ⟨x, r⟩
    · exact .inl (by rw [upd_ne (ne l)]; exact r)
    · exact .inr ⟨x, by rw [upd_ne (ne l)]; exact r⟩
  · rw [upd_ne (ne_of e h2 (fun z => nt _ z.symm))]; exact e
  · rw [upd_ne (ne_of e h2 (fun z => nf _ _ z.symm))]; exact e
theorem StS.wr0 (h : StS S n T O ρ σ H) (w : Wr0 O H H') (hs : SrcAt S O H') : StS S n T O ρ σ H' := by
  refine ⟨h.lenV, h.lenD, fun {j e} q => ?_, hs⟩
  obtain ⟨v', g, r'⟩ := h.val q
  refine ⟨v', g, ?_⟩
  obtain ⟨p, o, o', h1, h2, h3, rfl⟩ := id w.ex
  have ne : ∀ {a : Addr}, O a = some (j + 3) → a ≠ p := fun h y => by rw [y, h1] at h; simp at h
  unfold SlotV at r' ⊢
  split at r'
  · exact Rep.kp w.kp _ _ r'
  · cases e with
    | lst xs => obtain ⟨p', vs, e, n, r, z, i'⟩ := r'; exact ⟨p', vs, e, n, by rw [upd_ne (ne n)]; exact r, z, RepL.kp w.kp _ _ i'⟩
    | dK xs => obtain ⟨p', vs, e, n, r, z, i'⟩ := r'; exact ⟨p', vs, e, n, by rw [upd_ne (ne n)]; exact r, z, RepK.kp w.kp _ _ i'⟩
    | dT xs => obtain ⟨p', vs, e, n, r, z, i'⟩ := r'; exact ⟨p', vs, e, n, by rw [upd_ne (ne n)]; exact r, z, RepT.kp w.kp _ _ i'⟩
    | _ => exact Rep.kp w.kp _ _ r'
  · cases e with
    | lst xs =>
      obtain ⟨p', qs, e, n, r, z, nd, i'⟩ := r'
      have go : ∀ {xs : List D} {qs : List Addr}, Own1L S O H (j + 3) xs qs → Own1L S O (upd H p o') (j + 3) xs qs := by
        intro xs
        induction xs with
        | nil => intro qs h; cases h; exact .nil
        | cons x xs ih =>
          intro qs h
          cases h with
          | cons g0 g1 g2 g3 t => exact .cons g0 (by rw [upd_ne (ne g0)]; exact g1) g2 (RepL.kp w.kp _ _ g3) (ih t)
      exact ⟨p', qs, e, n, by rw [upd_ne (ne n)]; exact r, z, nd, go i'⟩
    | _ => exact Rep.kp w.kp _ _ r'
theorem StS.src_at {i : Nat} (st : StS S n T O ρ σ H) (ht : tg T i = 0) (e : ρ.getD i none = some .src) : σ[i]? = some (some (.ref S.ds)) := by
  obtain ⟨v, g1, g2⟩ := st.val (slotD e)
  rw [ht] at g2
  cases (show Rep S.ds (LV O) H .src v from g2)
  exact g1
/-- the source with something else in it -/
def srcO (dc : Addr) (l mi t : Int) : HO := .dK [(kCells, .ref dc), (kLeft, .int l), (kMixed, .int mi), (kTurn, .int t)]
theorem src_put {S : Sx} {O : Lab} {H : Hp} (h : SrcAt S O H) (kk : Sk) {z : Int} (hz : skOk kk z) : ∃ vs : List (L2.Key × V), H S.ds = some (.dK vs) ∧ vs.length < sizeLine ∧ Wr0 O H (upd H S.ds (.dK (putK vs (.inr (skName kk)) (.int z)))) ∧ SrcAt S O (upd H S.ds (.dK (putK vs (.inr (skName kk)) (.int z)))) := by
  obtain ⟨a1, a2, a3, cc, l, mi, t, a4, a5, a6⟩ := h
  refine ⟨_, a4, by show 4 < sizeLine; decide, ⟨S.ds, _, _, a1, a4, .inr trivial, rfl⟩, a1, a2, a3, cc, ?_⟩
  cases kk
  · exact ⟨z, mi, t, upd_same, by rw [upd_ne (Ne.symm a3)]; exact a5, a6⟩
  · exact ⟨l, z, t, upd_same, by rw [upd_ne (Ne.symm a3)]; exact a5, hz⟩
  · exact ⟨l, mi, z, upd_same, by rw [upd_ne (Ne.symm a3)]; exact a5, a6⟩
end
def rSetK : V → V → V → Hp → (Hp → Prop) → Prop := fun o k v H Q => ∃ (p : Addr) (vs : List (L2.Key × V)) (key : L2.Key), o = .ref p ∧ k = kV key ∧ H p = some (.dK vs) ∧ vs.length < sizeLine ∧ Q (upd H p (.dK (putK vs key v)))
theorem set_K {X : Cx} (hu : X.A.units + 64 < cLine) : PSet X rSetK := by
  intro pins s σ H o i v uo ui uv Q I ro ri rv ⟨p, vs, key, h1, h2, h3, h4, q⟩
  subst h1 h2
  cases ro
  exact d_setItem (hu1 hu) I (DPut.k h3 h4) ri rv fun s' I' => ⟨_, I', q⟩
section
variable {X : Cx} {Γ : Gam} {F : Str → Bool} {k : Nat} {c : SC} (w : WOk X Γ F k c) {n : Nat} {T Tl : Tags} {Tn : Option Tags}
include w
theorem ss_sset {i : Nat} {kk : Sk} {e : Ex} {x : Str} {xp q r p : Pos} {j : Nat} {v : Expr} (ht : tg T i = 0) (hv : varB c i x = true) (hf : frm v = true) (he : PE X v (tE Γ n T 4 e)) : PS X (.Assign [.Subscript (.Name x xp) (.Constant (.str (skName kk)) j q) r] v p) (tSm Γ n T (some T) Tl (.sset i kk e)) := by
  obtain ⟨h1, h2, h3, h4⟩ := w.name hv
  refine (ps_asg he (pg_sub (pe_var h1 h2 h3 h4) pe_str (set_K w.hu) (asg_sub rfl)) (sw_sole hf (fun _ _ z => by cases z)) (stores_none (.inr (fun _ _ _ z => by cases z)) (fun _ _ z => by cases z))).weak ?_
  rintro D σ H ⟨S, O, ρ, K, st, h, kr⟩
  rw [wpS] at h
  refine ⟨S, O, ρ, st.e, wpE.mono w.mono e ρ (fun vd hvd => Ext.res fun O1 H1 v1 x1 r1 => ?_) h.2⟩
  obtain ⟨z, rfl, hz, hq⟩ := dI_get hvd
  obtain rfl := rep_int r1
  have st1 := st.ext x1
  obtain ⟨vs, e1, e2, e3, e4⟩ := src_put st1.src kk hz
  exact ⟨_, st1.src_at ht h.1, _, vs, _, rfl, rfl, e1, e2, kr.nx _ rfl _ _ _ _ (x1.step.trans (e3.step e4)) (st1.wr0 e3 e4) hq⟩
/-- what is asked of the text that names the source's cells -/
def CellsE (X : Cx) (i : Nat) (G : Sx → L2.St → Prop) (e : Expr) : Prop := frm e = true ∧ ∃ te, PE X e te ∧ ∀ S O σ H Q, SrcAt S O H → σ[i]? = some (some (.ref S.ds)) → G S σ → Q (.ref S.dc) H → te σ H Q
theorem cells_sub {i : Nat} {e : Expr} (h : srcSub c i "cells" e = true) : CellsE X i (fun _ _ => True) e := by
  obtain ⟨x, p, j, q, r, rfl, hv⟩ := iv_srcSub h
  obtain ⟨h1, h2, h3, h4⟩ := w.name hv
  refine ⟨rfl, _, pe_ix (ix_dK w.hu) (pe_var h1 h2 h3 h4) pe_str (frm_ix rfl), fun S O σ H Q hs e1 _ hq => ?_⟩
  obtain ⟨a1, a2, a3, cc, l, mi, t, a4, a5, a6⟩ := hs
  exact ⟨_, e1, _, _, .inr "cells", rfl, rfl, .inl a4, _, rfl, hq⟩
theorem cells_var {i j : Nat} {e : Expr} (h : isVarE c j e = true) : CellsE X i (fun S σ => σ[j]? = some (some (.ref S.dc))) e := by
  obtain ⟨x, p, rfl, hv⟩ := iv_isVar h
  obtain ⟨h1, h2, h3, h4⟩ := w.name hv
  exact ⟨rfl, _, pe_var h1 h2 h3 h4, fun S O σ H Q hs e1 g hq => ⟨_, g, hq⟩⟩
/-- while x['left'] < 2 and len(cells) > 0: x['left'] = cells.pop() -/
theorem drain_run {i : Nat} {ce : Expr → Bool} {G : Sx → L2.St → Prop} {st : Stmt} (hm : mDrain c i ce st = true) (hce : ∀ e, ce e = true → CellsE X i G e) : ∃ t, PS X st t ∧ ∀ (S : Sx) (O : Lab) (ρ : DEnv) (σ : L2.St) (H : Hp) (D : Ends),
    StS S n T O ρ σ H → σ[i]? = some (some (.ref S.ds)) → G S σ → (∀ H', Step S O H O H' → StS S n T O ρ σ H' → D.nx σ H') → t D σ H := by
  obtain ⟨a, b, p1, q, a2, p2, b2, p3, p4, a3, a4, ap, cp, p5, p6, rfl, m1, m2, m3, m4, m5, m6, m7, m8⟩ := iv_drain hm
  obtain ⟨x, xp, j1, q1, r1, rfl, hv⟩ := iv_srcSub m1
  obtain ⟨x', xp', j1', q1', r1', rfl, hv'⟩ := iv_srcSub m6
  obtain ⟨k1, s1, rfl⟩ := iv_isInt m2
  obtain ⟨k2, s2, rfl⟩ := iv_isInt m5
  obtain ⟨f2, t2, g2, c2⟩ := hce _ m4
  obtain ⟨f4, t4, g4, c4⟩ := hce _ m7
  obtain ⟨h1, h2, h3, h4⟩ := w.name hv
  obtain ⟨h1', h2', h3', h4'⟩ := w.name hv'
  have hp := pe_bm0 (T := "list") (name := "pop") (id := "list.pop") (apos := ap) (cpos := cp) PySem.F.plainAttrs_list PySem.F.slot_list_pop PySem.F.type_list_pop (mt_pop (X := X)) g4 (frm_base f4) m8
  have hA := pt_cmpR (pos := p1) op_lt (pe_ix (pos := r1) (ix_dK w.hu) (pe_var (pos := xp) h1 h2 h3 h4) (pe_str (x := Str.ofString "left") (j := j1) (pos := q1)) (frm_ix rfl)) (pe_int (i := 2) (j := k1) (pos := s1)) (nomark _)
  have hB := pt_cmpR (pos := p3) op_gt (pe_callB (p := q) (pos := p2) call_len_seq (w.gl m3) (w.blt _ (by decide)) boot_len (pa_cons g2 pa_nil (star_cons (frm_star f2))) (by decide) (by decide) (star_cons (frm_star f2)) rfl) (pe_int (i := 0) (j := k2) (pos := s2)) (nomark _)
  have hS := ps_asg (pos := p5) hp (pg_sub (pos := r1') (pe_var (pos := xp') h1' h2' h3' h4') (pe_str (x := Str.ofString "left") (j := j1') (pos := q1')) (set_K w.hu) (asg_sub rfl)) (sw_sole rfl (fun _ _ z => by cases z)) (stores_none (.inr (fun _ _ _ z => by cases z)) (fun _ _ z => by cases z))
  refine ⟨_, ps_while w.po (pw_and hA (pw_and1 hB)).pt (pss_one hS), fun S O ρ σ H D st e1 hG hq => ?_⟩
  refine ⟨fun m σ' H' => σ' = σ ∧ Step S O H O H' ∧ StS S n T O ρ σ H' ∧ ∃ cc : List Int, H' S.dc = some (.lst (cc.map V.int)) ∧ m = cc.length, ?_, ?_⟩
  · obtain ⟨a1, a2, a3, cc, l, mi, t, a4, a5, a6⟩ := st.src
    exact ⟨_, rfl, Step.refl, st, cc, a5, rfl⟩
  rintro m σ' H1 ⟨rfl, x1, st1, cc, hc, rfl⟩
  obtain ⟨a1, a2, a3, cc', l, mi, t, a4, a5, a6⟩ := st1.src
  obtain rfl : cc' = cc := by
    rw [hc] at a5
    have : cc.map V.int = cc'.map V.int := by injection a5 with a5; injection a5
    exact ((List.map_inj_right (fun _ _ z => by cases z; rfl)).mp this).symm
  refine ⟨_, e1, _, _, .inr "left", rfl, rfl, .inl a4, _, rfl, l, 2, rfl, rfl, _, rfl, ?_⟩
  show (if decide (l < 2) = true then (_ : Prop) else (_ : Prop))
  by_cases hl : l < 2
  · rw [if_pos (decide_eq_true hl)]
    refine c2 S O _ _ _ st1.src e1 hG ?_
    refine ⟨S.dc, _, rfl, .inl (SqL.of a5), _, 0, rfl, rfl, _, rfl, ?_⟩
    show (if decide ((0 : Int) < ((cc'.map V.int).length : Nat)) = true then (_ : Prop) else (_ : Prop))
    by_cases hn : (0 : Int) < ((cc'.map V.int).length : Nat)
    · rw [if_pos (decide_eq_true hn)]
      rw [List.length_map] at hn
      have hne : cc' ≠ [] := fun z => by rw [z] at hn; simp at hn
      refine ⟨fun σ2 H2 => ∃ m', m' < cc'.length ∧ (σ2 = σ' ∧ Step S O H O H2 ∧ StS S n T O ρ σ' H2 ∧ ∃ cc : List Int, H2 S.dc = some (.lst (cc.map V.int)) ∧ m' = cc.length), fun σ2 H2 h => h, ?_⟩
      refine c4 S O _ _ _ st1.src e1 hG ⟨.inl ⟨rfl, _, SqL.of a5⟩, S.dc, _, .int (cc'.getLast hne), rfl, rfl, a5, ?_, ?_⟩
      · rw [List.length_map, List.getElem?_map, ← List.getLast?_eq_getElem?, List.getLast?_eq_some_getLast hne]
        rfl
      have w1 : Wr0 O H1 (upd H1 S.dc (.lst ((cc'.map V.int).dropLast))) := ⟨S.dc, _, _, a2, a5, .inl ⟨_, rfl⟩, rfl⟩
      have s1 : SrcAt S O (upd H1 S.dc (.lst ((cc'.map V.int).dropLast))) := ⟨a1, a2, a3, cc'.dropLast, l, mi, t, by rw [upd_ne a3]; exact a4, by rw [upd_same, List.map_dropLast], a6⟩
      have st2 := st1.wr0 w1 s1
      obtain ⟨vs, b1, b2, b3, b4⟩ := src_put s1 .left (z := cc'.getLast hne) trivial
      refine ⟨_, e1, _, vs, .inr "left", rfl, rfl, b1, b2, cc'.dropLast.length, ?_, rfl, (x1.trans (w1.step s1)).trans (b3.step b4), st2.wr0 b3 b4, cc'.dropLast, ?_, rfl⟩
      · rw [List.length_dropLast]; omega
      · rw [upd_ne (Ne.symm a3), upd_same, List.map_dropLast]
    · rw [if_neg (by simpa using hn)]
      exact hq _ x1 st1
  · rw [if_neg (by simpa using hl)]
    show (if false = true then (_ : Prop) else D.nx σ' H1)
    rw [if_neg (by simp)]
    exact hq _ x1 st1
theorem ss_drain {i : Nat} {st' : Stmt} (ht : tg T i = 0) (hm : mDrain c i (srcSub c i "cells") st' = true) : PS X st' (tSm Γ n T (some T) Tl (.drain i)) := by
  obtain ⟨t, h1, h2⟩ := drain_run w (n := n) (T := T) hm fun e he => cells_sub w he
  refine h1.weak ?_
  rintro D σ H ⟨S, O, ρ, K, st, h, kr⟩
  rw [wpS] at h
  exact h2 S O ρ σ H D st (st.src_at ht h.1) trivial fun H' x st1 => kr.nx _ rfl _ _ _ _ x st1 h.2
theorem ss_drn {i j : Nat} {r : Ss} {s1 s2 : Stmt} {rest : List Stmt} (ht : tg T i = 0) (hij : i ≠ j) (hc : mCells c i j s1 = true) (hm : mDrain c i (isVarE c j) s2 = true) (hr : PSs X rest (tSms Γ n T Tn Tl r)) : PSs X (s1 :: s2 :: rest) (tSms Γ n T Tn Tl (.drn i j r)) := by
  obtain ⟨x, xp, e, q, rfl, hs, he⟩ := iv_cells hc
  obtain ⟨hf, te, g, cg⟩ := cells_sub w he
  obtain ⟨t, h1, h2⟩ := drain_run w (n := n) (T := T) (i := i) hm fun e he => cells_var w he
  obtain ⟨b1, b2, b3⟩ := w.sto hs
  have hsw : swB X.env x xp e = false := by
    obtain ⟨_, _, _, _, _, rfl, _⟩ := iv_srcSub he
    rfl
  refine (pss_cons (ps_set (pos' := xp) (pos := q) w.nd b1 b2 g (by rw [sw_name hf, hsw]) b3) (pss_cons h1 hr)).weak ?_
  rintro D σ H ⟨S, O, ρ, K, st, h, kr⟩
  rw [wpSs] at h
  obtain ⟨h0, hj, h⟩ := h
  have e1 := st.src_at ht h0
  have hj' : j < σ.length := by rw [st.lenV, ← st.lenD]; exact hj
  have st1 : StS S n T O (ρ.set j none) (σ.set j (some (.ref S.dc))) H := by
    refine ⟨by rw [List.length_set]; exact st.lenV, by rw [List.length_set]; exact st.lenD, fun {l d} q => ?_, st.src⟩
    by_cases z : j = l
    · subst z
      rw [List.getElem?_set_self hj] at q
      cases q
    · rw [List.getElem?_set_ne z] at q ⊢
      exact st.val q
  refine cg S O σ H _ st.src e1 trivial ?_
  refine h2 S O _ _ H _ st1 (by rw [List.getElem?_set_ne (Ne.symm hij)]; exact e1) (List.getElem?_set_self hj') fun H' x st2 => ?_
  exact ⟨S, O, _, K, st2, h, kr.step x⟩
theorem ss_appPop {i j : Nat} {e : Ex} {x y : Str} {xp ap yp ap2 cp2 cp p : Pos} {e' : Expr} (hti : tg T i = 1) (htj : tg T j = 1) (hij : i ≠ j) (hx : varB c i x = true) (hy : varB c j y = true) (hl : (ap.endLine == cp.line) = true) (hl2 : (ap2.endLine == cp2.line) = true) (hf : frm e' = true) (he : PE X e' (tE Γ n T 4 e)) :
    PS X (.Expr (.Call (.Attribute (.Name x xp) "append" ap) [.Call (.Attribute (.Name y yp) "pop" ap2) [e'] [] cp2] [] cp) p) (tSm Γ n T (some T) Tl (.appPop i j e)) := by
  obtain ⟨h1, h2, h3, h4⟩ := w.name hx
  obtain ⟨g1, g2, g3, g4⟩ := w.name hy
  have hs := frm_star hf
  have hq := pe_bm (T := "list") (name := "pop") (id := "list.pop") (apos := ap2) (cpos := cp2) PySem.F.plainAttrs_list PySem.F.slot_list_pop PySem.F.type_list_pop (mt_popAt (X := X)) (pe_var (pos := yp) g1 g2 g3 g4) (pa_cons he pa_nil (star_cons hs)) rfl (by
      rw [star_all (by simp [hs])]
      rfl) hl2 (star_cons hs) rfl
  have hp := pe_bm (T := "list") (name := "append") (id := "list.append") (apos := ap) (cpos := cp) PySem.F.plainAttrs_list PySem.F.slot_list_append PySem.F.type_list_append (mt_append (X := X)) (pe_var (pos := xp) h1 h2 h3 h4) (pa_cons hq pa_nil rfl) rfl (by
      rw [star_all rfl]
      rfl) hl rfl rfl
  refine (ps_expr hp rfl).weak ?_
  rintro D σ H ⟨S, O, ρ, K, st, h, kr⟩
  rw [wpS] at h
  obtain ⟨f, hgi, hfl, h⟩ := h.get
  obtain ⟨d, hgj, hdl, h⟩ := h.get
  obtain ⟨vi, a1, a2⟩ := st.val (slotD hgi)
  obtain ⟨vj, b1, b2⟩ := st.val (slotD hgj)
  rw [hti] at a2
  rw [htj] at b2
  obtain ⟨fs, rfl⟩ : ∃ fs, f = .lst fs := by cases f <;> first | exact ⟨_, rfl⟩ | cases hfl
  obtain ⟨xs, rfl⟩ : ∃ fs, d = .lst fs := by cases d <;> first | exact ⟨_, rfl⟩ | cases hdl
  · obtain ⟨pi, us, rfl, n1, m1, zl1, it1⟩ := (show Own1 S O H (i + 3) (.lst fs) vi from a2)
    obtain ⟨pj, vs, rfl, n2, m2, zl2, it2⟩ := (show Own1 S O H (j + 3) (.lst xs) vj from b2)
    refine ⟨_, a1, .inl ⟨rfl, us, SqL.of m1⟩, _, b1, .inl ⟨rfl, vs, SqL.of m2⟩, S, O, ρ, st.e, wpE.mono w.mono e ρ (fun vd hvd => Ext.res fun O1 H1 v1 x1 r1 => ?_) h⟩
    obtain ⟨y', rd, e1, hvd⟩ := hvd.get
    obtain ⟨z, e2, q1⟩ := Opt.get hvd
    obtain ⟨i0, rfl⟩ : ∃ i, vd = .int i := by cases vd <;> first | exact ⟨_, rfl⟩ | cases e1
    obtain rfl := rep_int r1
    simp only [popD] at e1
    by_cases h0 : 0 ≤ i0
    · rw [if_pos h0] at e1
      obtain ⟨y0, e3, e4⟩ := Option.map_eq_some_iff.mp e1
      cases e4
      simp only [appD] at e2
      by_cases hz : fs.length < sizeLine
      · rw [if_pos hz] at e2
        obtain rfl := Option.some.inj e2
        have n1' : O1 pi = some (i + 3) := by rw [x1.lab m1]; exact n1
        have n2' : O1 pj = some (j + 3) := by rw [x1.lab m2]; exact n2
        have m1' := x1.old m1 (by rw [n1]; simp)
        have m2' := x1.old m2 (by rw [n2]; simp)
        have it2' := RepL.kp x1.kpV _ _ it2
        obtain ⟨vy, f1, f2⟩ := it2'.get e3
        have hlt : i0.toNat < vs.length := (List.getElem?_eq_some_iff.mp f1).1
        have hll : vs.length < 2 ^ 25 := Nat.lt_of_le_of_lt zl2 (by decide)
        have si : seqIndex? i0 vs.length = some i0.toNat := by
          unfold seqIndex?
          have hneg : ¬ i0 < 0 := by omega
          have hlt2 : i0 < (vs.length : Int) := by omega
          simp [hneg, h0, hlt2]
        have wj : Wr O1 H1 (upd H1 pj (.lst (vs.eraseIdx i0.toNat))) j := ⟨pj, _, _, n2', m2', .inl ⟨_, rfl⟩, rfl⟩
        have hne : pi ≠ pj := fun z => by rw [z, n2'] at n1'; simp at n1'; omega
        have st1 := st.ext x1
        have st2 : StS S n T O1 (ρ.set j (some (.lst (xs.eraseIdx i0.toNat)))) σ (upd H1 pj (.lst (vs.eraseIdx i0.toNat))) := st1.wr wj b1 (by
          rw [htj]
          exact ⟨pj, _, rfl, n2', upd_same, by rw [List.length_eraseIdx]; split <;> omega, (RepL.kp wj.kp _ _ it2').eraseIdx _⟩)
        have m1'' : (upd H1 pj (.lst (vs.eraseIdx i0.toNat))) pi = some (.lst us) := by rw [upd_ne hne]; exact m1'
        have it1' := RepL.kp wj.kp _ _ (RepL.kp x1.kpV _ _ it1)
        have wi : Wr O1 (upd H1 pj (.lst (vs.eraseIdx i0.toNat))) (upd (upd H1 pj (.lst (vs.eraseIdx i0.toNat))) pi (.lst (us ++ [vy]))) i := ⟨pi, _, _, n1', m1'', .inl ⟨_, rfl⟩, rfl⟩
        have hlen := it1.length
        refine ⟨pj, vs, i0, i0.toNat, vy, rfl, rfl, m2', by omega, by omega, si, f1, pi, us, vy, rfl, rfl, m1'', by omega, ?_⟩
        refine kr.nx _ rfl _ _ _ _ ((x1.step.trans wj.step).trans wi.step) (st2.wr wi a1 ?_) q1
        rw [hti]
        exact ⟨pi, _, rfl, n1', upd_same, by rw [List.length_append]; simp; omega, RepL.append (RepL.kp wi.kp _ _ it1') (.cons (Rep.kp wi.kp _ _ (Rep.kp wj.kp _ _ f2)) .nil)⟩
      · rw [if_neg hz] at e2
        cases e2
    · rw [if_neg h0] at e1
      cases e1
theorem ss_whl {t : Ex} {b : Ss} {t' : Expr} {body : List Stmt} {p : Pos} {Tb : Option Tags} (hTb : ∀ T', Tb = some T' → T' = T) (ht : PT X t' (tT Γ n T t)) (hb : PSs X body (tSms Γ n T Tb T b)) : PS X (.While t' body [] p) (tSm Γ n T (some T) Tl (.whl t b)) := by
  refine (ps_while w.po ht hb).weak ?_
  rintro D σ H ⟨S, O, ρ, K, st, h, kr⟩
  rw [wpS] at h
  obtain ⟨I, ⟨m0, i0⟩, h1⟩ := h
  refine ⟨fun m σ' H' => ∃ O' ρ', Step S O H O' H' ∧ StS S n T O' ρ' σ' H' ∧ I m ρ', ⟨m0, O, ρ, Step.refl, st, i0⟩, ?_⟩
  rintro m σ' H' ⟨O1, ρ1, x1, st1, im⟩
  refine ⟨S, O1, ρ1, st1.e, wpE.mono w.mono t ρ1 (fun d hd => ?_) (h1 m ρ1 im)⟩
  obtain ⟨z, rfl, g⟩ := dB_get hd
  intro O2 H2 x2
  have x02 := x1.trans x2.step
  cases z
  · rw [if_neg (by simp)] at g ⊢
    exact kr.nx _ rfl _ _ _ _ x02 (st1.ext x2) g
  · rw [if_pos rfl] at g ⊢
    refine ⟨fun σ' H' => ∃ m', m' < m ∧ ∃ O' ρ', Step S O H O' H' ∧ StS S n T O' ρ' σ' H' ∧ I m' ρ', fun σ' H' q => q, S, O2, ρ1, _, st1.ext x2, g, fun T' e O3 H3 ρ3 σ3 x3 st3 hn => ?_, fun O3 H3 d v x3 r3 hr => ?_, fun O3 H3 ρ3 σ3 x3 st3 hn => ?_, fun O3 H3 ρ3 σ3 x3 st3 hn => ?_⟩
    · obtain rfl := hTb T' e
      obtain ⟨m', l, i'⟩ := hn
      exact ⟨m', l, O3, ρ3, x02.trans x3, st3, i'⟩
    · exact kr.rt _ _ _ _ (x02.trans x3) r3 hr
    · exact kr.nx _ rfl _ _ _ _ (x02.trans x3) st3 hn
    · obtain ⟨m', l, i'⟩ := hn
      exact ⟨m', l, O3, ρ3, x02.trans x3, st3, i'⟩
end
end DL
/-! DL, part Zk: every matched statement has its reading. -/
namespace DL
open PySem PySem.Spec PyProof.Rows L2 PySem.W
theorem lk_none {it : It} (h : noItems it = true) : ∀ σ H, LkI it σ H := by
  intro σ H
  cases it <;> first | exact trivial | cases h
section
variable {Γ : Gam} {F : Str → Bool} {k : Nat}
theorem sn_asg {X : Cx} {c : SC} {n : Nat} {T Tl : Tags} {i t : Nat} {e : Ex} {x : Str} {xp p : Pos} {v : Expr} (w : WOk X Γ F k c) (hi : i < T.length) (ha : asgOk e = true) (hs : stoB c i x = true) (hm : mE c e v = true) (ok : okE F T (tmode t) e = true) : PS X (.Assign [.Name x xp] v p) (tSm Γ n T (some (T.set i t)) Tl (.asg i t e)) := by
  cases hsw : swB X.env x xp v with
  | false => exact ss_asg w hi hs (mE_frm hm) hsw ((snE e w hm).1 _ ok)
  | true =>
    cases v with
    | ListComp elt gs scope q =>
      cases e with
      | comp pt it ifs y own =>
        obtain ⟨x', tg', iter, ifs', scope', q', e0, h1, h2, h3, h4, h5, h6, h7, h8⟩ := iv_comp hm
        cases e0
        unfold okE at ok
        simp only [Bool.and_eq_true, Bool.or_eq_true, bne_iff_ne, List.all_eq_true, beq_iff_eq, List.contains_iff_mem] at ok
        obtain ⟨⟨⟨⟨⟨o1, o2⟩, o3, o4⟩, o5⟩, o6⟩, o7, o8⟩ := ok
        have hni : noItems it = true := by cases it <;> first | rfl | cases ha
        refine ss_asgC w hi hs hsw (fun z => by rcases o3 with y | y; exact absurd z y; exact y) o4 o6 (lk_none hni) h3 (snIt it w (.inr rfl) h1 o5 o1 o2 h4) ?_ h4 (fun s H C cl fp => snIfs ifs (w.blk s H scope cl C fp) h5 h6 h7 o7) (fun s H C cl fp => (snE y (w.blk s H scope cl C fp) h8).1 _ o8) (frm_fold (mIt_frm h1))
        rw [w.hN, w.hsc]
        exact blkOk_by h2
      | _ => unfold mE at hm; cases hm
    | _ => cases hsw
mutual
theorem snS : ∀ (ir : Sm) {X : Cx} {c : SC} {T Tl : Tags} {Tn : Option Tags} {st : Stmt} {n : Nat}, WOk X Γ F k c → mS c ir st = true → okS F Tl T ir = some Tn → PS X st (tSm Γ n T Tn Tl ir)
  | .asg i t e, X, c, T, Tl, Tn, st, n, w, h, ok => by
    obtain ⟨x, xp, v, p, rfl, h1, h2⟩ := ivS_asg h
    unfold okS at ok
    split at ok
    · rename_i q
      cases ok
      simp only [Bool.and_eq_true, decide_eq_true_eq] at q
      obtain ⟨⟨⟨q1, q2⟩, q3⟩, q4⟩ := q
      exact sn_asg w q1 q3 h1 h2 q4
    · cases ok
  | .unp is e, X, c, T, Tl, Tn, st, n, w, h, ok => by
    obtain ⟨ts, kk, q, v, p, rfl, h1, h2, h3⟩ := ivS_unp h
    unfold okS at ok
    split at ok
    · rename_i q
      cases ok
      simp only [Bool.and_eq_true, List.all_eq_true, beq_iff_eq] at q
      exact ss_unp w q.1 h1 (mE_frm h2) h3 ((snE e w h2).1 _ q.2)
    · cases ok
  | .par i t j u a b, X, c, T, Tl, Tn, st, n, w, h, ok => by
    obtain ⟨x, px, y, py, k1, q1, a', b', k2, q2, p, rfl, h1, h2, h3, h4, h5⟩ := ivS_par h
    unfold okS at ok
    split at ok
    · rename_i q
      cases ok
      simp only [Bool.and_eq_true, decide_eq_true_eq] at q
      obtain ⟨⟨⟨⟨⟨⟨o1, o2⟩, o3⟩, o4⟩, o5⟩, o6⟩, o7⟩ := q
      rcases Bool.or_eq_true_iff.mp h5 with h5 | h5
      · exact ss_par w o1 o2 o3 o4 o5 h1 h2 (mE_frm h3) (mE_frm h4) h5 ((snE a w h3).1 _ o6) ((snE b w h4).1 _ o7)
      · exact ss_parU w o1 o2 o4 o5 h1 h2 (mE_frm h3) (mE_frm h4) h5 ((snE a w h3).1 _ o6) ((snE b w h4).1 _ o7)
    · cases ok
  | .par3 i t j u k v a b e, X, c, T, Tl, Tn, st, n, w, h, ok => by
    obtain ⟨x, px, y, py, z, pz, k1, q1, a', b', e', k2, q2, p, rfl, h1, h2, h3, h4, h5, h6, h7⟩ := ivS_par3 h
    unfold okS at ok
    split at ok
    · rename_i q
      cases ok
      simp only [Bool.and_eq_true, decide_eq_true_eq] at q
      obtain ⟨⟨⟨⟨⟨o1, o2⟩, o3⟩, ⟨o4, o5⟩, o6⟩, ⟨o7, o8⟩, o9⟩, ⟨o10, o11⟩, o12⟩ := q
      rcases Bool.or_eq_true_iff.mp h7 with h7 | h7
      · exact ss_par3 w o1 o2 o3 o4 o5 o6 o7 o8 o9 h1 h2 h3 (mE_frm h4) (mE_frm h5) (mE_frm h6) h7 ((snE a w h4).1 _ o10) ((snE b w h5).1 _ o11) ((snE e w h6).1 _ o12)
      · exact ss_par3U w o1 o2 o3 o7 o8 o9 h1 h2 h3 (mE_frm h4) (mE_frm h5) (mE_frm h6) h7 ((snE a w h4).1 _ o10) ((snE b w h5).1 _ o11) ((snE e w h6).1 _ o12)
    · cases ok
  | .setix i kx e, X, c, T, Tl, Tn, st, n, w, h, ok => by
    obtain ⟨x, xp, k', q, v, p, rfl, h1, h2, h3⟩ := ivS_setix h
    unfold okS at ok
    split at ok
    · rename_i q
      cases ok
      simp only [Bool.and_eq_true, beq_iff_eq] at q
      exact ss_setix w q.1.1 h1 (mE_frm h2) (mE_frm h3) ((snE kx w h2).1 _ q.1.2) ((snE e w h3).1 _ q.2)
    · cases ok
  | .setix2 i kx k2 e, X, c, T, Tl, Tn, st, n, w, h, ok => by
    obtain ⟨x, xp, k', q, k2', q2, v, p, rfl, h1, h2, h3, h4⟩ := ivS_setix2 h
    unfold okS at ok
    split at ok
    · rename_i q
      cases ok
      simp only [Bool.and_eq_true, beq_iff_eq] at q
      exact ss_setix2 w q.1.1.1 h1 (mE_frm h2) (mE_frm h3) (mE_frm h4) ((snE kx w h2).1 _ q.1.1.2) ((snE k2 w h3).1 _ q.1.2) ((snE e w h4).1 _ q.2)
    · cases ok
  | .app i e, X, c, T, Tl, Tn, st, n, w, h, ok => by
    obtain ⟨x, xp, ap, e', cp, p, rfl, h1, h2, h3⟩ := ivS_app h
    unfold okS at ok
    split at ok
    · rename_i q
      cases ok
      simp only [Bool.and_eq_true, beq_iff_eq] at q
      exact ss_app w q.1 h1 h2 (frm_star (mE_frm h3)) ((snE e w h3).1 _ q.2)
    · cases ok
  | .ext _ _, X, c, T, Tl, Tn, st, n, w, h, ok => by unfold okS at ok; cases ok
  | .ret e, X, c, T, Tl, Tn, st, n, w, h, ok => by
    obtain ⟨e', p, rfl, h1⟩ := ivS_ret h
    unfold okS at ok
    split at ok
    · rename_i q
      exact ss_ret w ((snE e w h1).1 _ q)
    · cases ok
  | .iff t a b, X, c, T, Tl, Tn, st, n, w, h, ok => by
    obtain ⟨t', a', b', p, rfl, h1, h2, h3⟩ := ivS_iff h
    unfold okS at ok
    split at ok
    · rename_i q
      obtain ⟨Ta, e1, ok⟩ := Option.bind_eq_some_iff.mp ok
      obtain ⟨Tb, e2, ok⟩ := Option.bind_eq_some_iff.mp ok
      exact ss_iff w ok ((snE t w h1).2 q) (snSs a w h2 e1) (snSs b w h3 e2)
    · cases ok
  | .for_ p it b, X, c, T, Tl, Tn, st, n, w, h, ok => by
    obtain ⟨tg', iter, body, pq, rfl, h1, h2, h3⟩ := ivS_for h
    unfold okS at ok
    split at ok
    · rename_i q
      simp only [Bool.and_eq_true, List.all_eq_true, beq_iff_eq] at q
      obtain ⟨⟨⟨q1, q2⟩, q3⟩, q4⟩ := q
      have hv : itemsV it = true := by cases it <;> first | rfl | cases q2
      have go : ∀ Tb, okSs F T T b = some Tb → (∀ T', Tb = some T' → T' = T) → PS X (.For tg' iter body [] pq) (tSm Γ n T (some T) Tl (.for_ p it b)) := fun Tb e1 e2 => ss_for w h1 q4 (lk_none q2) (snIt it w (.inl rfl) h2 q3 q1 hv h1) (frm_fold (mIt_frm h2)) e2 (snSs b w h3 e1)
      split at ok
      · rename_i e1
        cases ok
        exact go _ e1 (fun _ z => by cases z)
      · rename_i e1
        split at ok
        · rename_i e2
          cases ok
          exact go _ e1 (fun _ z => by cases z; exact e2)
        · cases ok
      · cases ok
    · cases ok
  | .whl t b, X, c, T, Tl, Tn, st, n, w, h, ok => by
    obtain ⟨t', body, pq, rfl, h1, h2⟩ := ivS_whl h
    unfold okS at ok
    split at ok
    · rename_i q
      have go : ∀ Tb, okSs F T T b = some Tb → (∀ T', Tb = some T' → T' = T) → PS X (.While t' body [] pq) (tSm Γ n T (some T) Tl (.whl t b)) := fun Tb e1 e2 => ss_whl w e2 ((snE t w h1).2 q) (snSs b w h2 e1)
      split at ok
      · rename_i e1
        cases ok
        exact go _ e1 (fun _ z => by cases z)
      · rename_i e1
        split at ok
        · rename_i e2
          cases ok
          exact go _ e1 (fun _ z => by cases z; exact e2)
        · cases ok
      · cases ok
    · cases ok
  | .sset i kk e, X, c, T, Tl, Tn, st, n, w, h, ok => by
    obtain ⟨x, xp, j, q, r, v, p, rfl, h1, h2⟩ := ivS_sset h
    unfold okS at ok
    split at ok
    · rename_i qq
      cases ok
      simp only [Bool.and_eq_true, beq_iff_eq] at qq
      exact ss_sset w qq.1 h1 (mE_frm h2) ((snE e w h2).1 _ qq.2)
    · cases ok
  | .drain i, X, c, T, Tl, Tn, st, n, w, h, ok => by
    have h1 := ivS_drain h
    unfold okS at ok
    split at ok
    · rename_i qq
      cases ok
      exact ss_drain w (by simpa using qq) h1
    · cases ok
  | .appPop i j e, X, c, T, Tl, Tn, st, n, w, h, ok => by
    obtain ⟨x, xp, ap, y, yp, ap2, e', cp2, cp, p, rfl, h1, h2, h3, h4, h5⟩ := ivS_appPop h
    unfold okS at ok
    split at ok
    · rename_i qq
      cases ok
      simp only [Bool.and_eq_true, beq_iff_eq, decide_eq_true_eq] at qq
      exact ss_appPop w qq.1.1.1 qq.1.1.2 qq.1.2 h1 h2 h3 h4 (mE_frm h5) ((snE e w h5).1 _ qq.2)
    · cases ok
  | .brk, X, c, T, Tl, Tn, st, n, w, h, ok => by
    obtain ⟨p, rfl⟩ := ivS_brk h
    unfold okS at ok
    split at ok
    · rename_i q
      cases ok
      subst q
      refine ps_break.weak ?_
      rintro D σ H ⟨S, O, ρ, K, st, h, kr⟩
      rw [wpS] at h
      exact kr.bk _ _ _ _ Step.refl st h
    · cases ok
  | .cont, X, c, T, Tl, Tn, st, n, w, h, ok => by
    obtain ⟨p, rfl⟩ := ivS_cont h
    unfold okS at ok
    split at ok
    · rename_i q
      cases ok
      subst q
      refine ps_continue.weak ?_
      rintro D σ H ⟨S, O, ρ, K, st, h, kr⟩
      rw [wpS] at h
      exact kr.ct _ _ _ _ Step.refl st h
    · cases ok
  | .exp _, X, c, T, Tl, Tn, st, n, w, h, ok => by unfold okS at ok; cases ok
  | .fail, X, c, T, Tl, Tn, st, n, w, h, ok => by
    refine ⟨fun pins s σ H D I hh => ?_⟩
    obtain ⟨S, O, ρ, K, st, h, kr⟩ := hh
    rw [wpS] at h
    exact h.elim
theorem snSs : ∀ (ir : Ss) {X : Cx} {c : SC} {T Tl : Tags} {Tn : Option Tags} {sts : List Stmt} {n : Nat}, WOk X Γ F k c → mSs c ir sts = true → okSs F Tl T ir = some Tn → PSs X sts (tSms Γ n T Tn Tl ir)
  | .nil, X, c, T, Tl, Tn, sts, n, w, h, ok => by
    obtain rfl := ivS_nil h
    unfold okSs at ok
    cases ok
    refine pss_nil.weak ?_
    rintro D σ H ⟨S, O, ρ, K, st, h, kr⟩
    rw [wpSs] at h
    exact kr.nx _ rfl _ _ _ _ Step.refl st h
  | .cons s r, X, c, T, Tl, Tn, sts, n, w, h, ok => by
    obtain ⟨st, rest, rfl, h1, h2⟩ := ivS_cons h
    unfold okSs at ok
    obtain ⟨Ts, e1, ok⟩ := Option.bind_eq_some_iff.mp ok
    have a := snS s (n := n) w h1 e1
    split at ok
    · rename_i T'
      refine (pss_cons a (snSs r (n := n) w h2 ok)).weak ?_
      rintro D σ H ⟨S, O, ρ, K, st, h, kr⟩
      rw [wpSs] at h
      exact ⟨S, O, ρ, _, st, h, fun T2 e O' H' ρ' σ' x st' hq => by cases e; exact ⟨S, O', ρ', K, st', hq, kr.step x⟩, kr.rt, kr.bk, kr.ct⟩
    · split at ok
      · cases ok
        obtain rfl := ivS_nil h2
        refine (pss_one a).weak ?_
        rintro D σ H ⟨S, O, ρ, K, st, h, kr⟩
        rw [wpSs] at h
        exact ⟨S, O, ρ, _, st, h, fun T2 e => (by cases e), kr.rt, kr.bk, kr.ct⟩
      · cases ok
  | .frz i r, X, c, T, Tl, Tn, sts, n, w, h, ok => by
    have h1 := ivS_frz h
    unfold okSs at ok
    split at ok
    · rename_i q
      refine (snSs r (n := n) w h1 ok).weak ?_
      rintro D σ H ⟨S, O, ρ, K, st, h, kr⟩
      rw [wpSs] at h
      exact ⟨S, _, ρ, K, st.frz q, h, kr.step (Step.thaw (by omega))⟩
    · cases ok
  | .drn i j r, X, c, T, Tl, Tn, sts, n, w, h, ok => by
    obtain ⟨s1, s2, rest, rfl, h1, h2, h3⟩ := ivS_drn h
    unfold okSs at ok
    split at ok
    · rename_i qq
      simp only [Bool.and_eq_true, beq_iff_eq, decide_eq_true_eq] at qq
      exact ss_drn w qq.1.1 qq.2 h1 h2 (snSs r w h3 ok)
    · cases ok
end
end
end DL
/-! DL, part Zl: a function of the text keeps the promise of its data reading. -/
namespace DL
open PySem PySem.Spec PyProof.Rows L2 PySem.W
/-- the labels within a callee -/
def within (O : Lab) : Lab := fun a => match O a with
  | none => none
  | some 0 => some 0
  | some _ => some 1
/-- the labels behind a call -/
def behind (O O' : Lab) (H : Hp) : Lab := fun a => if (H a).isSome = true then O a else O' a
section
variable {S : Sx} {O O' : Lab} {H H' : Hp}
theorem within_none {a : Addr} : within O a = none ↔ O a = none := by
  unfold within
  split <;> simp_all
theorem within_zero {a : Addr} : within O a = some 0 ↔ O a = some 0 := by
  unfold within
  split <;> simp_all
theorem within_cases (a : Addr) : within O a = none ∨ within O a = some 0 ∨ within O a = some 1 := by
  unfold within
  split <;> simp
theorem src_within (h : SrcAt S O H) : SrcAt S (within O) H :=
  h.relab (by rw [h.1]; exact within_zero.mpr h.1) (by rw [h.2.1]; exact within_zero.mpr h.2.1)
theorem kpWithin : Kp (LV O) (LV (within O)) H H := ⟨fun r _ h => ⟨within_none.mpr h, r⟩, fun r h => ⟨within_none.mpr h, r⟩, fun _ _ e => e, fun _ _ _ e => e⟩
theorem behind_ext (x : Step S (within O) H O' H') : Ext S O H (behind O O' H) H' where
  old := fun {a o} e n => x.old e (by
    rcases within_cases (O := O) a with z | z | z
    · exact .inl z
    · exact absurd (within_zero.mp z) n
    · exact .inr z)
  lab := fun {a o} e => by unfold behind; rw [e]; rfl
  dom := x.dom
  tup := x.tup
  gt := x.gt
  src := fun h => by
    have hs := x.src (src_within h)
    obtain ⟨h1, h2, h3, c, l, mi, t, h4, h5, h6⟩ := h
    refine hs.relab ?_ ?_
    · unfold behind; rw [h4]; exact h1.trans hs.1.symm
    · unfold behind; rw [h5]; exact h2.trans hs.2.1.symm
theorem behind_none {a : Addr} (x : Step S (within O) H O' H') (h : O' a = none) : behind O O' H a = none := by
  unfold behind
  split
  · rename_i q
    obtain ⟨o, e⟩ := Option.isSome_iff_exists.mp q
    rw [x.lab e (within_cases a)] at h
    exact within_none.mp h
  · exact h
theorem kpBehind (x : Step S (within O) H O' H') : Kp (LV O') (LV (behind O O' H)) H' H' :=
  ⟨fun r _ h => ⟨behind_none x h, r⟩, fun r h => ⟨behind_none x h, r⟩, fun _ _ e => e, fun _ _ _ e => e⟩
end
theorem RepL.at {ds : Addr} {L : Addr → Prop} {H : Hp} : ∀ {xs : List DL.D} {vs : List V}, RepL ds L H xs vs → ∀ {i : Nat} {d : DL.D}, xs[i]? = some d → ∃ v, vs[i]? = some v ∧ Rep ds L H d v
  | _, _, .nil, i, d, e => by simp at e
  | _, _, .cons r t, 0, d, e => by simp at e; exact ⟨_, rfl, e ▸ r⟩
  | _, _, .cons r t, i + 1, d, e => by
    obtain ⟨v, h1, h2⟩ := RepL.at t (i := i) (d := d) (by simpa using e)
    exact ⟨v, by simpa using h1, h2⟩
/-- where a def begins, in data -/
def startD (n : Nat) (ds : List DL.D) : DEnv := ds.map some ++ List.replicate (n - ds.length) none
theorem tg_rep {n i : Nat} : tg (List.replicate n 0) i = 0 := by
  unfold tg
  rw [List.getD_eq_getElem?_getD, List.getElem?_replicate]
  split <;> rfl
theorem st_start {S : Sx} {O : Lab} {H : Hp} {N : List Str} {ds : List DL.D} {vs : List V} (h : SrcAt S O H) (r : RepL S.ds (LV O) H ds vs) (hl : vs.length ≤ N.length) : StS S N.length (List.replicate N.length 0) O (startD N.length ds) (L2.start N vs) H := by
  have hd := r.length
  refine ⟨?_, ?_, fun {i d} e => ?_, h⟩
  · unfold L2.start; rw [List.length_append, List.length_map, List.length_replicate]; omega
  · unfold startD; rw [List.length_append, List.length_map, List.length_replicate]; omega
  · unfold startD at e
    rw [List.getElem?_append] at e
    split at e
    · rename_i q
      rw [List.length_map] at q
      rw [List.getElem?_map] at e
      obtain ⟨d', e1, e2⟩ := Option.map_eq_some_iff.mp e
      cases e2
      obtain ⟨v, h1, h2⟩ := r.at e1
      refine ⟨v, ?_, ?_⟩
      · unfold L2.start
        rw [List.getElem?_append_left (by rw [List.length_map]; omega), List.getElem?_map, h1]
        rfl
      · rw [tg_rep]; exact h2
    · rw [List.getElem?_replicate] at e
      split at e <;> cases e
/-- the data reading of a def: n parameters, m slots -/
def defG (Γ : Gam) (n m : Nat) (ir : Ss) : List DL.D → (DL.D → Prop) → Prop := fun ds Q => ds.length = n ∧ wpSs Γ ir (startD m ds) ⟨fun _ => Q .non, Q, fun _ => False, fun _ => False⟩
theorem defG.mono {Γ : Gam} (h : GMono Γ) {n m : Nat} {ir : Ss} : ∀ ds (Q Q' : DL.D → Prop), (∀ d, Q d → Q' d) → defG Γ n m ir ds Q → defG Γ n m ir ds Q' :=
  fun ds Q Q' f hh => ⟨hh.1, wpSs.mono h ir _ (K := ⟨fun _ => Q .non, Q, fun _ => False, fun _ => False⟩) ⟨fun _ => f _, f, fun _ z => z, fun _ z => z⟩ hh.2⟩
/-- one function more -/
def addG (Γ : Gam) (x : Str) (g : List DL.D → (DL.D → Prop) → Prop) : Gam := fun y => if y = x then some (false, g) else Γ y
/-- the functions so far -/
structure GOk (P : Program) (w : World) (K : PySem.W.Frag) (mg : Str → Option Value) (base : Heap) (k : Nat) (Γ : Gam) : Prop where
  fns : ∀ f b g, Γ f = some (b, g) → FnIs P w K mg base k f b g
  mono : GMono Γ
  blt : ∀ x ∈ bltNames, mg x = none
theorem FnIs.up {P : Program} {w : World} {K : PySem.W.Frag} {mg : Str → Option Value} {base : Heap} {j k : Nat} {f : Str} {b : Bool} {g : List DL.D → (DL.D → Prop) → Prop} (h : FnIs P w K mg base j f b g) (hk : j ≤ k) : FnIs P w K mg base k f b g := by
  obtain ⟨fa, fd, ps, h1, h2, h3, h4, h5⟩ := h.ex
  exact ⟨fa, fd, ps, h1, h2, h3, h4.mono hk, h5⟩
section
variable {P : Program} {w : World} {K : PySem.W.Frag} {mg : Str → Option Value} {base : Heap} {k : Nat} {Γ : Gam}
theorem GOk.add {x : Str} {g : List DL.D → (DL.D → Prop) → Prop} (G : GOk P w K mg base k Γ) (h : FnIs P w K mg base (k + 1) x false g) (hm : ∀ ds (Q Q' : DL.D → Prop), (∀ d, Q d → Q' d) → g ds Q → g ds Q') : GOk P w K mg base (k + 1) (addG Γ x g) := by
  refine ⟨fun f b g' e => ?_, fun f b g' e => ?_, G.blt⟩
  · unfold addG at e
    split at e
    · rename_i q; cases e; subst q; exact h
    · exact (G.fns f b g' e).up (by omega)
  · unfold addG at e
    split at e
    · cases e; exact hm
    · exact G.mono f b g' e
/-- THE RULE of a def whose text is matched -/
theorem def_is {x : Str} {params : Arguments} {body : List Stmt} {scope : Scope} {fa : Addr} {fd : FuncData} {N ps : List Str} {ir : Ss} {Tn : Option Tags} (G : GOk P w K mg base k Γ) (F : FunD K x x params body scope [] [] fa fd) (hmg : mg x = some (.ref fa)) (hB : Binds K fd ps []) (hS : FnScope N ps scope)
    (hm : mSs ⟨N, scope, fun _ => true⟩ ir body = true) (hok : okSs (fun _ => false) (List.replicate N.length 0) (List.replicate N.length 0) ir = some Tn) : FnIs P w K mg base (k + 1) x false (defG Γ ps.length N.length ir) := by
  refine ⟨fa, fd, ps, hmg, F.kp, hB, ?_, fun ds Q h => h.1⟩
  have hpl : ps.length ≤ N.length := by
    have := congrArg List.length hS.pre
    rw [List.length_take] at this
    omega
  refine F.ok hS (fun vs H Q E h => h.1) fun cdv A outer s H vs Q E hr h => ?_
  obtain ⟨h1, S, O, ds, hs, rp, hg⟩ := h
  have wok : WOk (cxOf CX0 P w K mg base N x scope fa cdv A outer s H E).nox Γ (fun _ => false) k ⟨N, scope, fun _ => true⟩ :=
    { nd := hS.nd, hN := rfl, hsc := rfl, hfn := rfl, calm := rfl, room := hr, po := fun _ _ h => h.elim, blt := G.blt, fns := G.fns, fresh := fun _ _ _ _ z => (by cases z), mono := G.mono }
  refine ⟨_, PSs.nox (snSs ir (n := N.length) wok hm hok), ?_⟩
  refine ⟨S, within O, startD N.length ds, ⟨fun _ => Res 0 S O H Q .non, Res 0 S O H Q, fun _ => False, fun _ => False⟩, st_start (src_within hs) (RepL.kp kpWithin _ _ rp) (by omega), hg.2, fun T' e O' H' ρ' σ' x st hq => ?_, fun O' H' d v x r hq => ?_, fun _ _ _ _ _ _ z => z.elim, fun _ _ _ _ _ _ z => z.elim⟩
  · exact hq _ _ _ (behind_ext x) .non (NewR.flat rfl)
  · exact hq _ _ _ (behind_ext x) (Rep.kp (kpBehind x) _ _ r) (NewR.old (by decide) (by decide))
end
end DL
/-! DL, part Zm: the drawing source is made. -/
namespace DL
open PySem PySem.Spec PyProof.Rows L2 PySem.W
def isStrE (z : Str) : Expr → Bool
  | .Constant (.str z') _ _ => z' == z
  | _ => false
theorem iv_isStr {z : Str} {e : Expr} (h : isStrE z e = true) : ∃ k p, e = .Constant (.str z) k p := by
  unfold isStrE at h
  split at h <;> (try simp_all)
/-- int(mixed * B + cell * D + E) % F -/
def mMix (c : SC) (im ic : Nat) (B D E F : Int) : Expr → Bool
  | .BinOp (.Call (.Name q _) [.BinOp (.BinOp (.BinOp m1 .Mult b1 _) .Add (.BinOp c1 .Mult d1 _) _) .Add e1 _] [] _) .Mod f1 _ =>
    ((q == ("int" : Str)) && glB c.sc q) && ((isVarE c im m1 && isIntE B b1) && ((isVarE c ic c1 && isIntE D d1) && (isIntE E e1 && isIntE F f1)))
  | _ => false
/-- [abs(cell) for cell in script] -/
def mAbs (c : SC) (is ic : Nat) : Expr → Bool
  | .ListComp (.Call (.Name q _) [e1] [] _) [⟨tg, it, [], z⟩] scope _ => (z == 0) && ((isVarE c is it && blkC c.N c.sc scope (ownOf c.N [ic])) && ((mPat (subSC c scope) (.p ic) tg && decide ((ownOf c.N [ic]).map (·.2) = [ic])) && (((q == ("abs" : Str)) && glB (subSC c scope).sc q) && isVarE (subSC c scope) ic e1)))
  | _ => false
/-- x[::-1] -/
def mRevE (f : Expr → Bool) : Expr → Bool
  | .Subscript v (.Slice none none (some (.UnaryOp .USub (.Constant (.int z) _ _) _)) _) _ => (z == 1) && f v
  | _ => false
/-- {'cells': v, 'left': l0, 'mixed': mixed, 'turn': 0} -/
def mDisp (c : SC) (im : Nat) (l0 : Int) (f : Expr → Bool) : Expr → Bool
  | .Dict [some k1, some k2, some k3, some k4] [v1, v2, v3, v4] _ => (isStrE "cells" k1 && (isStrE "left" k2 && (isStrE "mixed" k3 && isStrE "turn" k4))) && ((mRevE f v1 && isIntE l0 v2) && (isVarE c im v3 && isIntE 0 v4))
  | _ => false
/-- the first two statements -/
def mSrc2 (c : SC) (is im ic : Nat) (A B D E F : Int) : Stmt → Stmt → Bool
  | .Assign [.Name x _] v0 _, .For t1 i1 [.Assign [.Name x2 _] me _] [] _ => (stoB c im x && isIntE A v0) && ((mPat c (.p ic) t1 && isVarE c is i1) && (stoB c im x2 && mMix c im ic B D E F me))
  | _, _ => false
def mSrcA (c : SC) (is im ic : Nat) (A B D E F l0 : Int) : List Stmt → Bool
  | [s1, s2, .Return (some r) _] => mSrc2 c is im ic A B D E F s1 s2 && mDisp c im l0 (mAbs c is ic) r
  | _ => false
def mSrcB (c : SC) (is im ic icl : Nat) (A B D E F l0 : Int) : List Stmt → Bool
  | [s1, s2, .Assign [.Name x _] e _, .Return (some r) _] => mSrc2 c is im ic A B D E F s1 s2 && ((stoB c icl x && mAbs c is ic e) && mDisp c im l0 (isVarE c icl) r)
  | _ => false
section
variable {c : SC} {e : Expr}
theorem iv_mix {im ic : Nat} {B D E F : Int} (h : mMix c im ic B D E F e = true) : ∃ q p1 p2 p3 p4 p5 p6 m1 b1 c1 d1 e1 f1, e = .BinOp (.Call (.Name "int" q) [.BinOp (.BinOp (.BinOp m1 .Mult b1 p1) .Add (.BinOp c1 .Mult d1 p2) p3) .Add e1 p4] [] p5) .Mod f1 p6 ∧
    glB c.sc "int" = true ∧ isVarE c im m1 = true ∧ isIntE B b1 = true ∧ isVarE c ic c1 = true ∧ isIntE D d1 = true ∧ isIntE E e1 = true ∧ isIntE F f1 = true := by
  unfold mMix at h
  split at h
  · simp only [Bool.and_eq_true, beq_iff_eq] at h
    obtain ⟨⟨rfl, h2⟩, ⟨h3, h4⟩, ⟨h5, h6⟩, h7, h8⟩ := h
    exact ⟨_, _, _, _, _, _, _, _, _, _, _, _, _, rfl, h2, h3, h4, h5, h6, h7, h8⟩
  · cases h
theorem iv_abs {is ic : Nat} (h : mAbs c is ic e = true) : ∃ q p e1 tg it scope p2, e = .ListComp (.Call (.Name "abs" q) [e1] [] p) [⟨tg, it, [], 0⟩] scope p2 ∧ isVarE c is it = true ∧ blkC c.N c.sc scope (ownOf c.N [ic]) = true ∧ mPat (subSC c scope) (.p ic) tg = true ∧ (ownOf c.N [ic]).map (·.2) = [ic] ∧ glB (subSC c scope).sc "abs" = true ∧ isVarE (subSC c scope) ic e1 = true := by
  unfold mAbs at h
  split at h
  · simp only [Bool.and_eq_true, beq_iff_eq, decide_eq_true_eq] at h
    obtain ⟨rfl, ⟨h1, h2⟩, ⟨h3, h4⟩, ⟨rfl, h5⟩, h6⟩ := h
    exact ⟨_, _, _, _, _, _, _, rfl, h1, h2, h3, h4, h5, h6⟩
  · cases h
theorem iv_revE {f : Expr → Bool} (h : mRevE f e = true) : ∃ v k p1 p2 p3 p, e = .Subscript v (.Slice none none (some (.UnaryOp .USub (.Constant (.int 1) k p1) p2)) p3) p ∧ f v = true := by
  unfold mRevE at h
  split at h
  · simp only [Bool.and_eq_true, beq_iff_eq] at h
    obtain ⟨rfl, h1⟩ := h
    exact ⟨_, _, _, _, _, _, rfl, h1⟩
  · cases h
theorem iv_disp {im : Nat} {l0 : Int} {f : Expr → Bool} (h : mDisp c im l0 f e = true) : ∃ k1 k2 k3 k4 v1 v2 v3 v4 p, e = .Dict [some k1, some k2, some k3, some k4] [v1, v2, v3, v4] p ∧ isStrE "cells" k1 = true ∧ isStrE "left" k2 = true ∧ isStrE "mixed" k3 = true ∧ isStrE "turn" k4 = true ∧ mRevE f v1 = true ∧ isIntE l0 v2 = true ∧ isVarE c im v3 = true ∧ isIntE 0 v4 = true := by
  unfold mDisp at h
  split at h
  · simp only [Bool.and_eq_true] at h
    obtain ⟨⟨h1, h2, h3, h4⟩, ⟨h5, h6⟩, h7, h8⟩ := h
    exact ⟨_, _, _, _, _, _, _, _, _, rfl, h1, h2, h3, h4, h5, h6, h7, h8⟩
  · cases h
theorem iv_src2 {is im ic : Nat} {A B D E F : Int} {s1 s2 : Stmt} (h : mSrc2 c is im ic A B D E F s1 s2 = true) : ∃ x p v0 q t1 i1 x2 p2 me q2 q3, s1 = .Assign [.Name x p] v0 q ∧ s2 = .For t1 i1 [.Assign [.Name x2 p2] me q2] [] q3 ∧ stoB c im x = true ∧ isIntE A v0 = true ∧ mPat c (.p ic) t1 = true ∧ isVarE c is i1 = true ∧ stoB c im x2 = true ∧ mMix c im ic B D E F me = true := by
  unfold mSrc2 at h
  split at h
  · simp only [Bool.and_eq_true] at h
    obtain ⟨⟨h1, h2⟩, ⟨h3, h4⟩, h5, h6⟩ := h
    exact ⟨_, _, _, _, _, _, _, _, _, _, _, rfl, rfl, h1, h2, h3, h4, h5, h6⟩
  · cases h
end
/-- what the law's script holds -/
def ScriptAt (K : PySem.W.Frag) (H : Hp) (a : Addr) : Prop := ∃ ns : List Int, ns.length < sizeLine ∧ SqL K H a (ns.map V.int)
/-- what stands stays -/
def Kept (H H' : Hp) : Prop := ∀ {b : Addr} {o : HO}, H b = some o → H' b = some o
theorem Kept.refl {H : Hp} : Kept H H := fun e => e
theorem Kept.trans {H H1 H2 : Hp} (x : Kept H H1) (y : Kept H1 H2) : Kept H H2 := fun e => y (x e)
theorem Kept.new {H : Hp} {p : Addr} {o : HO} (h : H p = none) : Kept H (upd H p o) := fun e => by rw [upd_ne (ne_of_none e h)]; exact e
theorem Kept.rd {H H' : Hp} (x : Kept H H') {a : Addr} {o : HO} (h : Rd H a o) : Rd H' a o := by
  rcases h with h | ⟨q, h⟩
  · exact .inl (x h)
  · exact .inr ⟨q, x h⟩
theorem Kept.sq {K : PySem.W.Frag} {H H' : Hp} (x : Kept H H') {a : Addr} {xs : List V} (h : SqL K H a xs) : SqL K H' a xs := by
  rcases h with h | h
  · exact .inl (x.rd h)
  · exact .inr h
def spSource (K : PySem.W.Frag) : Sp := fun vs H Q _ => ∃ a, vs = [.ref a] ∧ ScriptAt K H a ∧ ∀ H' ds dc (cc : List Int) (l mi t : Int), Kept H H' → H ds = none → H dc = none → ds ≠ dc → H' ds = some (srcO dc l mi t) → H' dc = some (.lst (cc.map V.int)) → 0 ≤ mi → mi < 2147483648 → Q (.ref ds) H'
section
variable {X : Cx} {Γ : Gam} {F0 : Str → Bool} {k : Nat} {c : SC} (w : WOk X Γ F0 k c)
include w
theorem var_pe {i : Nat} {e : Expr} (h : isVarE c i e = true) : PE X e (tVar i) ∧ frm e = true := by
  obtain ⟨x, p, rfl, hv⟩ := iv_isVar h
  obtain ⟨h1, h2, h3, h4⟩ := w.name hv
  exact ⟨pe_var h1 h2 h3 h4, rfl⟩
theorem int_pe {z : Int} {e : Expr} (h : isIntE z e = true) : PE X e (tC (.int z)) ∧ frm e = true := by
  obtain ⟨k, p, rfl⟩ := iv_isInt h
  exact ⟨pe_int, rfl⟩
theorem str_pe {z : Str} {e : Expr} (h : isStrE z e = true) : PE X e (tC (.str z)) ∧ frm e = true := by
  obtain ⟨k, p, rfl⟩ := iv_isStr h
  exact ⟨pe_str, rfl⟩
/-- the mixing step -/
theorem mix_pe {im ic : Nat} {B D E F : Int} {e : Expr} (hB : -(2 ^ 64) < B ∧ B < 2 ^ 64) (hD : -(2 ^ 64) < D ∧ D < 2 ^ 64) (hF : 0 < F) (h : mMix c im ic B D E F e = true) : frm e = true ∧ ∃ te, PE X e te ∧ ∀ σ H Q (m z : Int), σ[im]? = some (some (.int m)) → σ[ic]? = some (some (.int z)) → (∀ y : Int, 0 ≤ y → y < F → Q (.int y) H) → te σ H Q := by
  obtain ⟨q, p1, p2, p3, p4, p5, p6, m1, b1, c1, d1, e1, f1, rfl, h1, h2, h3, h4, h5, h6, h7⟩ := iv_mix h
  refine ⟨rfl, _, pe_op op_mod (pe_callTy call_int1 (w.gl h1) (w.blt _ (by decide)) PyProof.Rows.boot_int (pa_cons (pe_op op_add (pe_op op_add (pe_op op_mul (var_pe w h2).1 (int_pe w h3).1) (pe_op op_mul (var_pe w h4).1 (int_pe w h5).1)) (int_pe w h6).1) pa_nil rfl) (by decide) (by decide) rfl rfl) (int_pe w h7).1, ?_⟩
  intro σ H Q m z e1 e2 hq
  refine ⟨_, e1, _, _, rfl, rfl, .inr hB, _, e2, _, _, rfl, rfl, .inr hD, _, _, rfl, rfl, _, _, rfl, rfl, .inl ⟨_, rfl, _, _, rfl, rfl, hF, ?_⟩⟩
  exact hq _ (Int.emod_nonneg _ (by omega)) (Int.emod_lt_of_pos _ hF)
theorem abs_pe {is ic : Nat} {e : Expr} (h : mAbs c is ic e = true) : frm e = true ∧ ∃ te, PE X e te ∧ ∀ (σ : L2.St) (H : Hp) (Q : VK) (a : Addr), σ[is]? = some (some (.ref a)) → ic < σ.length → ScriptAt X.K H a → (∀ H' p (cc : List Int), Kept H H' → H p = none → cc.length < sizeLine → H' p = some (.lst (cc.map V.int)) → Q (.ref p) H') → te σ H Q := by
  obtain ⟨q, p, e1, tg, it, scope, p2, rfl, h1, h2, h3, h4, h5, h6⟩ := iv_abs h
  have hok : BlkOk X.N X.env.scope scope (ownOf c.N [ic]) := by
    rw [w.hN, w.hsc]
    exact blkOk_by h2
  have hg : ∀ (s : Shared) (H : Hp) (C : Addr) (cl : List (Str × Addr)) (fp : List Addr), PG (X.blk s H scope (compEnvC scope cl C X.env) fp) tg (gName ic) := fun s H C cl fp => pg_pat (w.blk s H scope cl C fp) (.p ic) tg h3
  have he : ∀ (s : Shared) (H : Hp) (C : Addr) (cl : List (Str × Addr)) (fp : List Addr), PE (X.blk s H scope (compEnvC scope cl C X.env) fp) (.Call (.Name "abs" q) [e1] [] p) _ := fun s H C cl fp => by
    have w' := w.blk s H scope cl C fp
    obtain ⟨v1, f1⟩ := var_pe w' h6
    exact pe_callB call_abs (w'.gl h5) (w'.blt _ (by decide)) PyProof.Rows.boot_abs (pa_cons v1 pa_nil (star_cons (frm_star f1))) (by decide) (by decide) (star_cons (frm_star f1)) rfl
  obtain ⟨v1, f1⟩ := var_pe w h1
  refine ⟨rfl, _, pe_lc w.calm w.nd (pi_list v1) hok hg (fun s H C cl fp => pts_nil) he (frm_fold f1), fun σ H Q a ea hl hs hq => ?_⟩
  rw [h4]
  obtain ⟨ns, hn, sq⟩ := hs
  refine ⟨_, ea, a, rfl, ⟨_, sq⟩, fun D hD => ?_⟩
  refine lc_list (xs := ns.map V.int) (fun i H' => ∃ acc : List Int, H' = upd H D (.lst (acc.map V.int)) ∧ acc.length = i) ⟨[], rfl, rfl⟩ ?_ ?_ ?_
  · rintro i _ _ ⟨acc, rfl, _⟩
    exact Kept.sq (Kept.new hD) sq
  · rintro i x _ hx ⟨acc, rfl, rfl⟩
    obtain ⟨z, hz, rfl⟩ : ∃ z, ns[acc.length]? = some z ∧ x = V.int z := by
      rw [List.getElem?_map] at hx
      obtain ⟨z, h1, h2⟩ := Option.map_eq_some_iff.mp hx
      exact ⟨z, h1, h2.symm⟩
    have hlt : acc.length < ns.length := (List.getElem?_eq_some_iff.mp hz).1
    refine ⟨by simp [wipe], ?_⟩
    simp only [tYes, if_true]
    refine ⟨_, List.getElem?_set_self (by rw [wipe_length]; exact hl), z, rfl, _, upd_same, by rw [List.length_map]; omega, acc ++ [if z < 0 then -z else z], ?_, by simp⟩
    rw [upd_upd, List.map_append]
    rfl
  · rintro _ ⟨acc, rfl, hlen⟩
    rw [List.length_map] at hlen
    exact hq _ D acc (Kept.new hD) hD (by omega) upd_same
/-- the display -/
theorem disp_pe {im : Nat} {l0 : Int} {f : Expr → Bool} {e : Expr} (h : mDisp c im l0 f e = true) {Pc : L2.St → Hp → Prop} (hP : ∀ σ H H', Kept H H' → Pc σ H → Pc σ H')
    (hf : ∀ e, f e = true → ∃ te, PE X e te ∧ ∀ (σ : L2.St) (H : Hp) (Q : VK), Pc σ H → (∀ H' p (cc : List Int), Kept H H' → cc.length < sizeLine → H' p = some (.lst (cc.map V.int)) → Q (.ref p) H') → te σ H Q) :
    ∃ te, PE X e te ∧ ∀ (σ : L2.St) (H : Hp) (Q : VK) (m : Int), σ[im]? = some (some (.int m)) → Pc σ H → (∀ H' ds dc (cc : List Int), Kept H H' → H ds = none → H dc = none → ds ≠ dc → H' ds = some (srcO dc l0 m 0) → H' dc = some (.lst (cc.map V.int)) → Q (.ref ds) H') → te σ H Q := by
  obtain ⟨k1, k2, k3, k4, v1, v2, v3, v4, p, rfl, h1, h2, h3, h4, h5, h6, h7, h8⟩ := iv_disp h
  obtain ⟨v, k, p1, p2, p3, p4, rfl, h9⟩ := iv_revE h5
  obtain ⟨te, g, cg⟩ := hf _ h9
  refine ⟨_, pe_disp (pps_cons (str_pe w h1).1 (pe_revL g) (pps_cons (str_pe w h2).1 (int_pe w h6).1 (pps_cons (str_pe w h3).1 (var_pe w h7).1 (pps_cons (str_pe w h4).1 (int_pe w h8).1 pps_nil)))) rfl rfl (fun z => nomatch z) (show 4 ≤ 15 by decide), fun σ H Q m em hp hq => ?_⟩
  intro ds hds
  refine cg σ _ _ (hP _ _ _ (Kept.new hds) hp) fun H1 pl cc k1 hcc hpl => ?_
  refine ⟨pl, _, rfl, SqL.of hpl, fun dc hdc => ?_⟩
  refine ⟨_, em, ?_⟩
  have kd : Kept H (upd H ds (.dK [])) := Kept.new hds
  have e1 : H1 ds = some (.dK []) := k1 upd_same
  have hne : ds ≠ dc := ne_of_none e1 hdc
  refine ⟨by rw [upd_ne hne]; exact e1, [(kCells, .ref dc), (kLeft, .int l0), (kMixed, .int m), (kTurn, .int 0)], rfl, show 4 ≤ 15 by decide, ?_⟩
  refine hq _ ds dc cc.reverse ?_ hds ?_ hne ?_ ?_
  · intro b o eb
    have hb : b ≠ ds := ne_of_none eb hds
    have e2 := k1 (kd eb)
    have hb2 : b ≠ dc := ne_of_none e2 hdc
    rw [upd_ne hb, upd_ne hb2]
    exact e2
  · cases e : H dc with
    | none => rfl
    | some o =>
      have := k1 (kd e)
      rw [hdc] at this
      cases this
  · rw [upd_same]
    rfl
  · rw [upd_ne (Ne.symm hne), upd_same, List.map_reverse]
theorem src2_run {is im ic : Nat} {A B D E F : Int} {s1 s2 : Stmt} {rest : List Stmt} {u : TS} (hA : 0 ≤ A ∧ A < F) (hB : -(2 ^ 64) < B ∧ B < 2 ^ 64) (hD : -(2 ^ 64) < D ∧ D < 2 ^ 64) (n1 : im ≠ is) (n2 : ic ≠ is) (n3 : im ≠ ic) (h : mSrc2 c is im ic A B D E F s1 s2 = true) (hr : PSs X rest u) :
    ∃ t, PSs X (s1 :: s2 :: rest) t ∧ ∀ (σ : L2.St) (H : Hp) (En : Ends) (a : Addr), σ[is]? = some (some (.ref a)) → im < σ.length → ic < σ.length → ScriptAt X.K H a → (∀ σ' (m : Int), σ'.length = σ.length → σ'[is]? = some (some (.ref a)) → σ'[im]? = some (some (.int m)) → 0 ≤ m → m < F → u En σ' H) → t En σ H := by
  obtain ⟨x, p, v0, q, t1, i1, x2, p2, me, q2, q3, rfl, rfl, h1, h2, h3, h4, h5, h6⟩ := iv_src2 h
  obtain ⟨b1, b2, b3⟩ := w.sto h1
  obtain ⟨c1, c2, c3⟩ := w.sto h5
  obtain ⟨g0, f0⟩ := int_pe w h2
  obtain ⟨g1, f1⟩ := var_pe w h4
  obtain ⟨f6, te, g6, r6⟩ := mix_pe w hB hD (by omega) h6
  have sw : ∀ {y : Str} {py : Pos} {e : Expr} {l : Nat}, frm e = true → (∀ a b c d, e ≠ .ListComp a b c d) → swapsWith e (some (.Name y py)) l X.env = pure false := fun {y py e l} hf hn => by
    rw [sw_name hf]
    cases e <;> first | rfl | exact absurd rfl (hn _ _ _ _)
  have hv0 : ∀ a b c d, v0 ≠ .ListComp a b c d := fun a b c d z => by
    obtain ⟨_, _, rfl⟩ := iv_isInt h2
    cases z
  have hme : ∀ a b c d, me ≠ .ListComp a b c d := fun a b c d z => by
    obtain ⟨_, _, _, _, _, _, _, _, _, _, _, _, _, rfl, _⟩ := iv_mix h6
    cases z
  refine ⟨_, pss_cons (ps_set (pos' := p) (pos := q) w.nd b1 b2 g0 (sw f0 hv0) b3) (pss_cons (ps_for w.po w.calm (pi_list g1) (pg_pat w (.p ic) t1 h3) (pss_one (ps_set (pos' := p2) (pos := q2) w.nd c1 c2 g6 (sw f6 hme) c3)) (frm_fold f1)) hr), fun σ H En a ea l1 l2 hs hq => ?_⟩
  obtain ⟨ns, hn, sq⟩ := id hs
  refine ⟨_, by show (σ.set im (some (.int A)))[is]? = _; rw [List.getElem?_set_ne n1]; exact ea, a, rfl, ⟨_, sq⟩, ?_⟩
  refine for_list (xs := ns.map V.int) (fun i σ' H' => H' = H ∧ σ'.length = σ.length ∧ σ'[is]? = some (some (.ref a)) ∧ ∃ m : Int, σ'[im]? = some (some (.int m)) ∧ 0 ≤ m ∧ m < F) ?_ ?_ ?_ ?_
  · exact ⟨rfl, by rw [List.length_set], by rw [List.getElem?_set_ne n1]; exact ea, A, List.getElem?_set_self l1, hA⟩
  · rintro i σ' _ _ ⟨rfl, _⟩
    exact sq
  · rintro i x σ' _ hx ⟨rfl, e1, e2, m, e3, _⟩
    obtain ⟨z, rfl⟩ : ∃ z, x = V.int z := by
      rw [List.getElem?_map] at hx
      obtain ⟨z, _, h2⟩ := Option.map_eq_some_iff.mp hx
      exact ⟨z, h2.symm⟩
    show te (σ'.set ic (some (.int z))) _ _
    refine r6 _ _ _ m z (by rw [List.getElem?_set_ne (Ne.symm n3)]; exact e3) (List.getElem?_set_self (by omega)) fun y hy1 hy2 => ?_
    refine ⟨rfl, by rw [List.length_set, List.length_set]; exact e1, ?_, y, List.getElem?_set_self (by rw [List.length_set]; omega), hy1, hy2⟩
    rw [List.getElem?_set_ne n1, List.getElem?_set_ne n2]
    exact e2
  · rintro σ' _ ⟨rfl, e1, e2, m, e3, e4, e5⟩
    exact hq σ' m e1 e2 e3 e4 e5
end
/-- the source's maker keeps its promise -/
theorem source_is {P : Program} {w : World} {K : PySem.W.Frag} {mg : Str → Option Value} {base : Heap} {k : Nat} {x : Str} {params : Arguments} {body : List Stmt} {scope : Scope} {fa : Addr} {fd : FuncData} {N : List Str} {ps : List Str} {is im ic : Nat} {A B D E F l0 : Int} (blt : ∀ x ∈ bltNames, mg x = none) (F0 : FunD K x x params body scope [] [] fa fd) (hS : FnScope N ps scope)
    (hp : ps.length = 1) (hA : 0 ≤ A ∧ A < F) (hF : F ≤ 2147483648) (hB : -(2 ^ 64) < B ∧ B < 2 ^ 64) (hD : -(2 ^ 64) < D ∧ D < 2 ^ 64) (hi : is = 0) (n1 : im ≠ 0) (n2 : ic ≠ 0) (n3 : im ≠ ic) (l1 : im < N.length) (l2 : ic < N.length) (hm : mSrcA ⟨N, scope, fun _ => true⟩ is im ic A B D E F l0 body = true) : FnOk P w K mg base CX0 (k + 1) fa fd ps (spSource K) := by
  subst hi
  refine F0.ok hS (fun vs H Q E h => ?_) fun cdv Ar outer s H vs Q En hr h => ?_
  · obtain ⟨a, rfl, _⟩ := h
    exact hp.symm
  obtain ⟨a, rfl, hs, hq⟩ := h
  have wok : WOk (cxOf CX0 P w K mg base N x scope fa cdv Ar outer s H En).nox (fun _ => none) (fun _ => false) k ⟨N, scope, fun _ => true⟩ :=
    { nd := hS.nd, hN := rfl, hsc := rfl, hfn := rfl, calm := rfl, room := hr, po := fun _ _ h => h.elim, blt := blt, fns := (fun _ _ _ z => by cases z), fresh := (fun _ _ _ z => by cases z), mono := (fun _ _ _ z => by cases z) }
  unfold mSrcA at hm
  split at hm
  · rename_i s1 s2 r q
    rw [Bool.and_eq_true] at hm
    obtain ⟨m1, m2⟩ := hm
    obtain ⟨te, g, cg⟩ := disp_pe wok m2 (Pc := fun σ H => σ[0]? = some (some (.ref a)) ∧ ic < σ.length ∧ ScriptAt K H a) (fun σ H H' x y => ⟨y.1, y.2.1, by obtain ⟨ns, a1, a2⟩ := y.2.2; exact ⟨ns, a1, x.sq a2⟩⟩) (fun e he => by
      obtain ⟨_, te, g, cg⟩ := abs_pe wok he
      exact ⟨te, g, fun σ H Q hp hq => cg σ H Q a hp.1 hp.2.1 hp.2.2 fun H' p cc x1 x2 x3 x4 => hq H' p cc x1 x3 x4⟩)
    obtain ⟨t, g2, c2⟩ := src2_run wok hA hB hD n1 n2 n3 m1 (pss_one (ps_ret (pos := q) g))
    have hlen : (L2.start N [V.ref a]).length = N.length := by
      unfold L2.start
      rw [List.length_append, List.length_map, List.length_replicate]
      show 1 + (N.length - 1) = _
      omega
    refine ⟨t, PSs.nox g2, ?_⟩
    refine c2 _ _ _ a rfl (by rw [hlen]; exact l1) (by rw [hlen]; exact l2) hs fun σ' m e1 e2 e3 e4 e5 => ?_
    refine cg σ' H _ m e3 ⟨e2, by rw [e1, hlen]; exact l2, hs⟩ fun H' ds dc cc y1 y2 y3 y4 y5 y6 => ?_
    exact hq H' ds dc cc l0 m 0 y1 y2 y3 y4 y5 y6 e4 (by omega)
  · cases hm
end DL
/-! DL, part Zn: the law's def. -/
namespace DL
open PySem PySem.Spec PyProof.Rows L2 PySem.W
/-- source = maker(script), then the rest -/
def mLaw (c : SC) (is js : Nat) (f : Str) (ir : Ss) : List Stmt → Bool
  | .Assign [.Name x _] (.Call (.Name g _) [e] [] _) _ :: rest => (stoB c js x && ((g == f) && (glB c.sc g && nmOk g))) && (isVarE c is e && mSs c ir rest)
  | _ => false
theorem iv_law {c : SC} {is js : Nat} {f : Str} {ir : Ss} {b : List Stmt} (h : mLaw c is js f ir b = true) : ∃ x p q e p2 p3 rest, b = .Assign [.Name x p] (.Call (.Name f q) [e] [] p2) p3 :: rest ∧ stoB c js x = true ∧ glB c.sc f = true ∧ nmOk f = true ∧ isVarE c is e = true ∧ mSs c ir rest = true := by
  unfold mLaw at h
  split at h
  · simp only [Bool.and_eq_true, beq_iff_eq] at h
    obtain ⟨⟨h1, rfl, h3, h4⟩, h5, h6⟩ := h
    exact ⟨_, _, _, _, _, _, _, rfl, h1, h3, h4, h5, h6⟩
  · cases h
def spLaw (K : PySem.W.Frag) : Sp := fun vs H Q _ => ∃ a, vs = [.ref a] ∧ ScriptAt K H a ∧ ∀ H', Q (.bl true) H'
/-- where the law's rest begins -/
def lawD (n js : Nat) : DEnv := (List.replicate n none).set js (some .src)
theorem law_is {P : Program} {w : World} {K : PySem.W.Frag} {mg : Str → Option Value} {base : Heap} {k : Nat} {Γ : Gam} {x : Str} {params : Arguments} {body : List Stmt} {scope : Scope} {fa : Addr} {fd : FuncData} {N ps : List Str} {ir : Ss} {Tn : Option Tags} {js : Nat} {f : Str} {fs : Addr} {fds : FuncData} {pss : List Str}
    (G : GOk P w K mg base k Γ) (F : FunD K x x params body scope [] [] fa fd) (hS : FnScope N ps scope) (hp : ps.length = 1) (hsrc : FnOk P w K mg base CX0 k fs fds pss (spSource K)) (hms : mg f = some (.ref fs)) (hks : PySem.W.keepIn K (.ref fs) = true) (hBs : Binds K fds pss [])
    (hj : js < N.length) (hm : mLaw ⟨N, scope, fun _ => true⟩ 0 js f ir body = true) (hok : okSs (fun _ => false) (List.replicate N.length 0) (List.replicate N.length 0) ir = some Tn)
    (hl : wpSs Γ ir (lawD N.length js) ⟨fun _ => False, fun d => d = .bl true, fun _ => False, fun _ => False⟩) : FnOk P w K mg base CX0 (k + 1) fa fd ps (spLaw K) := by
  refine F.ok hS (fun vs H Q E h => ?_) fun cdv A outer s H vs Q E hr h => ?_
  · obtain ⟨a, rfl, _⟩ := h
    exact hp.symm
  obtain ⟨a, rfl, hs, hq⟩ := h
  have wok : WOk (cxOf CX0 P w K mg base N x scope fa cdv A outer s H E).nox Γ (fun _ => false) k ⟨N, scope, fun _ => true⟩ :=
    { nd := hS.nd, hN := rfl, hsc := rfl, hfn := rfl, calm := rfl, room := hr, po := fun _ _ h => h.elim, blt := G.blt, fns := G.fns, fresh := (fun _ _ _ _ z => by cases z), mono := G.mono }
  obtain ⟨y, p, q, e, p2, p3, rest, rfl, h1, h2, h3, h4, h5⟩ := iv_law hm
  obtain ⟨b1, b2, b3⟩ := wok.sto h1
  obtain ⟨g, fr⟩ := var_pe wok h4
  have hN : (f == ("__debug__" : Str)) = false := by
    unfold nmOk at h3
    simp only [Bool.and_eq_true, Bool.not_eq_true'] at h3
    exact h3.1.1
  have hc := pe_call (p := q) (pos := p2) (E := fun _ _ _ => False) hsrc wok.room (wok.gl h2) hms hks hBs .nil pass0 (pa_cons g pa_nil (star_cons (frm_star fr))) hN (star_cons (frm_star fr)) rfl
  refine ⟨_, PSs.nox (pss_cons (ps_set (pos' := p) (pos := p3) wok.nd b1 b2 hc (by rw [sw_name rfl]; rfl) b3) (snSs ir (n := N.length) wok h5 hok)), ?_⟩
  have hlen : (L2.start N [V.ref a]).length = N.length := by
    unfold L2.start
    rw [List.length_append, List.length_map, List.length_replicate]
    show 1 + (N.length - 1) = _
    omega
  refine ⟨_, rfl, a, rfl, hs, fun H' ds dc cc l mi t y1 y2 y3 y4 y5 y6 y7 y8 => ?_⟩
  refine ⟨⟨ds, dc⟩, fun b => if b = ds ∨ b = dc then some 0 else none, lawD N.length js, _, ⟨?_, ?_, fun {i d} ei => ?_, ?_⟩, hl, fun T' e O' H' ρ' σ' x st hq => hq.elim, fun O' H' d v x r hd => ?_, fun _ _ _ _ _ _ z => z.elim, fun _ _ _ _ _ _ z => z.elim⟩
  · rw [List.length_set]; exact hlen
  · unfold lawD; rw [List.length_set, List.length_replicate]
  · unfold lawD at ei
    by_cases z : js = i
    · subst z
      rw [List.getElem?_set_self (by rw [List.length_replicate]; exact hj)] at ei
      cases ei
      refine ⟨.ref ds, List.getElem?_set_self (by rw [hlen]; exact hj), ?_⟩
      rw [tg_rep]
      exact Rep.src
    · rw [List.getElem?_set_ne z, List.getElem?_replicate] at ei
      split at ei <;> cases ei
  · exact ⟨if_pos (.inl rfl), if_pos (.inr rfl), y4, cc, l, mi, t, y5, y6, y7, y8⟩
  · subst hd
    cases r
    exact hq H'
end DL
/-! VA: plain sums, lots of votes, lists of pairs as dicts. -/
namespace Vt
/-! ### sums -/
def isum {α : Type} (xs : List α) (f : α → Int) : Int := (xs.map f).sum
section
variable {α β : Type}
@[simp] theorem isum_nil (f : α → Int) : isum [] f = 0 := rfl
@[simp] theorem isum_cons (x : α) (xs : List α) (f : α → Int) : isum (x :: xs) f = f x + isum xs f := by simp [isum]
theorem isum_append (xs ys : List α) (f : α → Int) : isum (xs ++ ys) f = isum xs f + isum ys f := by simp [isum]
theorem isum_perm {xs ys : List α} (h : xs.Perm ys) (f : α → Int) : isum xs f = isum ys f := by
  induction h with
  | nil => rfl
  | cons x _ ih => simp [ih]
  | swap x y l => simp; omega
  | trans _ _ i j => exact i.trans j
theorem isum_congr {xs : List α} {f g : α → Int} (h : ∀ x ∈ xs, f x = g x) : isum xs f = isum xs g := by
  induction xs with
  | nil => rfl
  | cons x xs ih =>
    rw [isum_cons, isum_cons, h x List.mem_cons_self, ih fun y hy => h y (List.mem_cons_of_mem _ hy)]
theorem isum_add (xs : List α) (f g : α → Int) : isum xs (fun x => f x + g x) = isum xs f + isum xs g := by
  induction xs with
  | nil => rfl
  | cons x xs ih => simp [ih]; omega
theorem isum_sub (xs : List α) (f g : α → Int) : isum xs (fun x => f x - g x) = isum xs f - isum xs g := by
  induction xs with
  | nil => rfl
  | cons x xs ih => simp [ih]; omega
theorem isum_mul (xs : List α) (c : Int) (f : α → Int) : isum xs (fun x => c * f x) = c * isum xs f := by
  induction xs with
  | nil => simp
  | cons x xs ih => simp [ih, Int.mul_add]
theorem isum_mul_right (xs : List α) (c : Int) (f : α → Int) : isum xs (fun x => f x * c) = isum xs f * c := by
  induction xs with
  | nil => simp
  | cons x xs ih => simp [ih, Int.add_mul]
theorem isum_neg (xs : List α) (f : α → Int) : isum xs (fun x => -f x) = -isum xs f := by
  induction xs with
  | nil => rfl
  | cons x xs ih => simp [ih]; omega
theorem isum_zero {xs : List α} {f : α → Int} (h : ∀ x ∈ xs, f x = 0) : isum xs f = 0 := by
  rw [isum_congr h]
  induction xs with
  | nil => rfl
  | cons x xs ih => rw [isum_cons, ih fun y hy => h y (List.mem_cons_of_mem _ hy)]; rfl
theorem isum_const (xs : List α) (c : Int) : isum xs (fun _ => c) = xs.length * c := by
  induction xs with
  | nil => simp
  | cons x xs ih => rw [isum_cons, ih, List.length_cons, Int.natCast_add, Int.add_mul]; omega
theorem isum_le {xs : List α} {f g : α → Int} (h : ∀ x ∈ xs, f x ≤ g x) : isum xs f ≤ isum xs g := by
  induction xs with
  | nil => exact Int.le_refl _
  | cons x xs ih =>
    rw [isum_cons, isum_cons]
    have := h x List.mem_cons_self
    have := ih fun y hy => h y (List.mem_cons_of_mem _ hy)
    omega
theorem isum_lt {xs : List α} {f g : α → Int} (h : ∀ x ∈ xs, f x ≤ g x) {y : α} (hy : y ∈ xs) (hl : f y < g y) : isum xs f < isum xs g := by
  induction xs with
  | nil => cases hy
  | cons x xs ih =>
    rw [isum_cons, isum_cons]
    have h1 := h x List.mem_cons_self
    have h2 := isum_le fun y hy => h y (List.mem_cons_of_mem _ hy)
    rcases List.mem_cons.mp hy with e | e
    · subst e; omega
    · have := ih (fun y hy => h y (List.mem_cons_of_mem _ hy)) e
      omega
theorem isum_nonneg {xs : List α} {f : α → Int} (h : ∀ x ∈ xs, 0 ≤ f x) : 0 ≤ isum xs f := by
  have := isum_le (f := fun _ => (0 : Int)) h
  rw [isum_zero (fun _ _ => rfl)] at this
  exact this
theorem isum_map (xs : List α) (g : α → β) (f : β → Int) : isum (xs.map g) f = isum xs fun x => f (g x) := by simp [isum, Function.comp_def]
theorem isum_filter (xs : List α) (p : α → Bool) (f : α → Int) : isum (xs.filter p) f = isum xs fun x => if p x = true then f x else 0 := by
  induction xs with
  | nil => rfl
  | cons x xs ih =>
    rw [List.filter_cons, isum_cons]
    split
    · rw [isum_cons, ih]
    · rw [ih]; omega
theorem isum_swap (xs : List α) (ys : List β) (f : α → β → Int) : isum xs (fun x => isum ys fun y => f x y) = isum ys fun y => isum xs fun x => f x y := by
  induction xs with
  | nil => exact (isum_zero fun _ _ => rfl).symm
  | cons x xs ih => simp only [isum_cons, ih, isum_add]
theorem isum_range_succ (n : Nat) (f : Nat → Int) : isum (List.range (n + 1)) f = isum (List.range n) f + f n := by
  rw [List.range_succ, isum_append]; simp
/-- one place of a row without doubles -/
theorem isum_single [DecidableEq α] {xs : List α} (hn : xs.Nodup) {a : α} (ha : a ∈ xs) (c : Int) : isum xs (fun x => if x = a then c else 0) = c := by
  induction xs with
  | nil => cases ha
  | cons x xs ih =>
    rw [List.nodup_cons] at hn
    rw [isum_cons]
    by_cases e : x = a
    · subst e
      rw [if_pos rfl, isum_zero fun y hy => if_neg fun (q : y = x) => hn.1 (q ▸ hy)]
      omega
    · rw [if_neg e, ih hn.2 ((List.mem_cons.mp ha).resolve_left fun q => e q.symm)]
      omega
end
/-! ### votes -/
abbrev Lot := List Nat × Int
/-- f of all voters' orders, added -/
def vsum {κ : Type} (v : List (κ × Int)) (f : κ → Int) : Int := isum v fun p => p.2 * f p.1
section
variable {κ : Type}
@[simp] theorem vsum_nil (f : κ → Int) : vsum [] f = 0 := rfl
@[simp] theorem vsum_cons (p : κ × Int) (v : List (κ × Int)) (f : κ → Int) : vsum (p :: v) f = p.2 * f p.1 + vsum v f := isum_cons _ _ _
theorem vsum_append (v w : List (κ × Int)) (f : κ → Int) : vsum (v ++ w) f = vsum v f + vsum w f := isum_append _ _ _
theorem vsum_perm {v w : List (κ × Int)} (h : v.Perm w) (f : κ → Int) : vsum v f = vsum w f := isum_perm h _
theorem vsum_congr {v : List (κ × Int)} {f g : κ → Int} (h : ∀ p ∈ v, f p.1 = g p.1) : vsum v f = vsum v g := isum_congr fun p hp => by rw [h p hp]
theorem vsum_add (v : List (κ × Int)) (f g : κ → Int) : vsum v (fun o => f o + g o) = vsum v f + vsum v g := by
  unfold vsum; rw [← isum_add]; exact isum_congr fun p _ => Int.mul_add _ _ _
theorem vsum_sub (v : List (κ × Int)) (f g : κ → Int) : vsum v (fun o => f o - g o) = vsum v f - vsum v g := by
  unfold vsum; rw [← isum_sub]; exact isum_congr fun p _ => Int.mul_sub _ _ _
theorem vsum_mul (v : List (κ × Int)) (c : Int) (f : κ → Int) : vsum v (fun o => c * f o) = c * vsum v f := by
  unfold vsum; rw [← isum_mul]; exact isum_congr fun p _ => Int.mul_left_comm _ _ _
theorem vsum_neg (v : List (κ × Int)) (f : κ → Int) : vsum v (fun o => -f o) = -vsum v f := by
  unfold vsum; rw [← isum_neg]; exact isum_congr fun p _ => Int.mul_neg _ _
theorem vsum_zero {v : List (κ × Int)} {f : κ → Int} (h : ∀ p ∈ v, f p.1 = 0) : vsum v f = 0 := isum_zero fun p hp => by rw [h p hp, Int.mul_zero]
theorem vsum_le {v : List (κ × Int)} {f g : κ → Int} (hp : ∀ p ∈ v, 0 ≤ p.2) (h : ∀ p ∈ v, f p.1 ≤ g p.1) : vsum v f ≤ vsum v g := isum_le fun p hq => Int.mul_le_mul_of_nonneg_left (h p hq) (hp p hq)
theorem vsum_nonneg {v : List (κ × Int)} {f : κ → Int} (hp : ∀ p ∈ v, 0 ≤ p.2) (h : ∀ p ∈ v, 0 ≤ f p.1) : 0 ≤ vsum v f := isum_nonneg fun p hq => Int.mul_nonneg (hp p hq) (h p hq)
theorem vsum_lt {v : List (κ × Int)} {f g : κ → Int} (hp : ∀ p ∈ v, 0 < p.2) (h : ∀ p ∈ v, f p.1 ≤ g p.1) {q : κ × Int} (hq : q ∈ v) (hl : f q.1 < g q.1) : vsum v f < vsum v g :=
  isum_lt (fun p hr => Int.mul_le_mul_of_nonneg_left (h p hr) (Int.le_of_lt (hp p hr))) hq (Int.mul_lt_mul_of_pos_left hl (hp q hq))
theorem vsum_isum {β : Type} (v : List (κ × Int)) (ys : List β) (f : κ → β → Int) : vsum v (fun o => isum ys (f o)) = isum ys fun y => vsum v fun o => f o y := by
  unfold vsum
  rw [← isum_swap]
  exact isum_congr fun p _ => (isum_mul _ _ _).symm
/-- all voters -/
def tot (v : List (κ × Int)) : Int := isum v (·.2)
theorem tot_eq (v : List (κ × Int)) : tot v = vsum v fun _ => 1 := isum_congr fun p _ => (Int.mul_one _).symm
theorem vsum_const (v : List (κ × Int)) (c : Int) : vsum v (fun _ => c) = tot v * c := by
  unfold tot
  rw [← isum_mul_right]; rfl
theorem tot_pos {v : List (κ × Int)} (h0 : v ≠ []) (hp : ∀ p ∈ v, 0 < p.2) : 0 < tot v := by
  cases v with
  | nil => exact (h0 rfl).elim
  | cons p v =>
    unfold tot
    rw [isum_cons]
    have := hp p List.mem_cons_self
    have := isum_nonneg (xs := v) (f := fun q => q.2) fun q hq => Int.le_of_lt (hp q (List.mem_cons_of_mem _ hq))
    omega
theorem tot_nonneg {v : List (κ × Int)} (hp : ∀ p ∈ v, 0 ≤ p.2) : 0 ≤ tot v := isum_nonneg hp
end
/-! ### pairs as dicts -/
section
variable {κ β : Type} [DecidableEq κ]
def aGet (v : List (κ × β)) (k : κ) : Option β := (v.find? fun p => decide (p.1 = k)).map (·.2)
def aPut (v : List (κ × β)) (k : κ) (x : β) : List (κ × β) :=
  if (v.any fun p => decide (p.1 = k)) = true then v.map (fun p => if p.1 = k then (p.1, x) else p) else v ++ [(k, x)]
/-- no key twice -/
def KN (v : List (κ × β)) : Prop := (v.map (·.1)).Nodup
@[simp] theorem aGet_nil (k : κ) : aGet ([] : List (κ × β)) k = none := rfl
theorem aGet_cons (p : κ × β) (v : List (κ × β)) (k : κ) : aGet (p :: v) k = if p.1 = k then some p.2 else aGet v k := by
  unfold aGet
  rw [List.find?_cons]
  by_cases e : p.1 = k <;> simp [e]
theorem aGet_none {v : List (κ × β)} {k : κ} : aGet v k = none ↔ ∀ p ∈ v, p.1 ≠ k := by
  induction v with
  | nil => simp
  | cons p v ih =>
    rw [aGet_cons]
    by_cases e : p.1 = k
    · simp [e]
    · simp [e, ih]
theorem aGet_mem {v : List (κ × β)} {k : κ} {x : β} (h : aGet v k = some x) : (k, x) ∈ v := by
  induction v with
  | nil => cases h
  | cons p v ih =>
    rw [aGet_cons] at h
    by_cases e : p.1 = k
    · rw [if_pos e] at h
      cases h
      subst e
      exact List.mem_cons_self
    · rw [if_neg e] at h
      exact List.mem_cons_of_mem _ (ih h)
theorem aGet_of_mem {v : List (κ × β)} (hn : KN v) {k : κ} {x : β} (h : (k, x) ∈ v) : aGet v k = some x := by
  induction v with
  | nil => cases h
  | cons p v ih =>
    unfold KN at hn
    rw [List.map_cons, List.nodup_cons] at hn
    rw [aGet_cons]
    rcases List.mem_cons.mp h with e | e
    · subst e; rw [if_pos rfl]
    · rw [if_neg fun (q : p.1 = k) => hn.1 (q ▸ List.mem_map.mpr ⟨_, e, rfl⟩)]
      exact ih hn.2 e
theorem aGet_iff {v : List (κ × β)} (hn : KN v) {k : κ} {x : β} : aGet v k = some x ↔ (k, x) ∈ v := ⟨aGet_mem, aGet_of_mem hn⟩
theorem KN.perm {v w : List (κ × β)} (h : v.Perm w) (hn : KN v) : KN w := (h.map _).nodup hn
theorem aGet_perm {v w : List (κ × β)} (h : v.Perm w) (hn : KN v) (k : κ) : aGet v k = aGet w k := by
  cases e : aGet w k with
  | none =>
    rw [aGet_none] at e ⊢
    exact fun p hp => e p (h.mem_iff.mp hp)
  | some x => exact aGet_of_mem hn (h.mem_iff.mpr (aGet_mem e))
theorem any_key {v : List (κ × β)} {k : κ} : (v.any fun p => decide (p.1 = k)) = (aGet v k).isSome := by
  induction v with
  | nil => rfl
  | cons p v ih =>
    rw [List.any_cons, ih, aGet_cons]
    by_cases e : p.1 = k <;> simp [e]
theorem aPut_some {v : List (κ × β)} {k : κ} {y : β} (x : β) (h : aGet v k = some y) : aPut v k x = v.map fun p => if p.1 = k then (p.1, x) else p := by
  unfold aPut; rw [any_key, h]; rfl
theorem aPut_none {v : List (κ × β)} {k : κ} (x : β) (h : aGet v k = none) : aPut v k x = v ++ [(k, x)] := by
  unfold aPut; rw [any_key, h]; rfl
theorem aPut_keys {v : List (κ × β)} {k : κ} (x : β) : (aPut v k x).map (·.1) = if (aGet v k).isSome = true then v.map (·.1) else v.map (·.1) ++ [k] := by
  cases h : aGet v k with
  | some y =>
    rw [aPut_some x h, List.map_map]
    simp only [Option.isSome_some, if_true]
    refine List.map_congr_left fun p _ => ?_
    simp only [Function.comp]
    split <;> rfl
  | none => rw [aPut_none x h, List.map_append]; simp
theorem KN.put {v : List (κ × β)} (hn : KN v) (k : κ) (x : β) : KN (aPut v k x) := by
  unfold KN
  rw [aPut_keys]
  split
  · exact hn
  · rename_i q
    have e : aGet v k = none := by cases h : aGet v k <;> simp_all
    rw [List.nodup_append]
    refine ⟨hn, by simp, fun a ha b hb => ?_⟩
    obtain rfl := List.mem_singleton.mp hb
    obtain ⟨p, hp, rfl⟩ := List.mem_map.mp ha
    exact aGet_none.mp e p hp
theorem aGet_map_put (v : List (κ × β)) (k : κ) (x : β) (k' : κ) : aGet (v.map fun p => if p.1 = k then (p.1, x) else p) k' = if k' = k then (aGet v k).map fun _ => x else aGet v k' := by
  induction v with
  | nil => by_cases e : k' = k <;> simp [e]
  | cons p v ih =>
    rw [List.map_cons, aGet_cons, aGet_cons, aGet_cons, ih]
    by_cases e1 : p.1 = k <;> by_cases e2 : k' = k <;> by_cases e3 : p.1 = k' <;> simp_all
theorem aGet_append (v w : List (κ × β)) (k : κ) : aGet (v ++ w) k = (aGet v k).or (aGet w k) := by
  induction v with
  | nil => simp
  | cons p v ih =>
    rw [List.cons_append, aGet_cons, aGet_cons, ih]
    by_cases e : p.1 = k <;> simp [e]
theorem aGet_put (v : List (κ × β)) (k : κ) (x : β) (k' : κ) : aGet (aPut v k x) k' = if k' = k then some x else aGet v k' := by
  cases h : aGet v k with
  | some y =>
    rw [aPut_some x h, aGet_map_put, h]
    rfl
  | none =>
    rw [aPut_none x h, aGet_append, aGet_cons, aGet_nil]
    by_cases e : k' = k
    · subst e; simp [h]
    · have : ¬ k = k' := fun q => e q.symm
      simp [e, this]
theorem mem_aPut {v : List (κ × β)} {k : κ} {x : β} {p : κ × β} (h : p ∈ aPut v k x) : p = (k, x) ∨ (p ∈ v ∧ p.1 ≠ k) := by
  cases e : aGet v k with
  | some y =>
    rw [aPut_some x e] at h
    obtain ⟨q, hq, rfl⟩ := List.mem_map.mp h
    by_cases c : q.1 = k
    · rw [if_pos c]; exact .inl (by rw [c])
    · rw [if_neg c]; exact .inr ⟨hq, c⟩
  | none =>
    rw [aPut_none x e] at h
    rcases List.mem_append.mp h with h | h
    · exact .inr ⟨h, aGet_none.mp e p h⟩
    · exact .inl (List.mem_singleton.mp h)
theorem aPut_ne (v : List (κ × β)) (k : κ) (x : β) : aPut v k x ≠ [] := by
  intro h
  have := aGet_put v k x k
  rw [h, if_pos rfl] at this
  cases this
theorem aPut_length (v : List (κ × β)) (k : κ) (x : β) : (aPut v k x).length ≤ v.length + 1 := by
  unfold aPut
  split <;> simp
/-- so many voters of k -/
def cnt (v : List (κ × Int)) (k : κ) : Int := (aGet v k).getD 0
theorem vsum_map_put {v : List (κ × Int)} (hn : KN v) {k : κ} {y : Int} (x : Int) (f : κ → Int) (h : aGet v k = some y) : vsum (v.map fun p => if p.1 = k then (p.1, x) else p) f = vsum v f + (x - y) * f k := by
  induction v with
  | nil => cases h
  | cons p v ih =>
    unfold KN at hn
    rw [List.map_cons, List.nodup_cons] at hn
    rw [aGet_cons] at h
    rw [List.map_cons, vsum_cons, vsum_cons]
    by_cases e : p.1 = k
    · rw [if_pos e] at h
      cases h
      have : (v.map fun q => if q.1 = k then (q.1, x) else q) = v := by
        refine (List.map_congr_left fun q hq => ?_).trans (List.map_id v)
        rw [if_neg fun (z : q.1 = k) => hn.1 (by rw [e, ← z]; exact List.mem_map.mpr ⟨q, hq, rfl⟩)]
        rfl
      rw [if_pos e, this]
      subst e
      simp only [Int.sub_mul]
      omega
    · rw [if_neg e] at h
      rw [if_neg e, ih hn.2 h]
      omega
theorem vsum_put {v : List (κ × Int)} (hn : KN v) (k : κ) (x : Int) (f : κ → Int) : vsum (aPut v k x) f = vsum v f + (x - cnt v k) * f k := by
  unfold cnt
  cases e : aGet v k with
  | some y => rw [aPut_some x e, vsum_map_put hn x f e]; rfl
  | none =>
    rw [aPut_none x e, vsum_append, vsum_cons, vsum_nil]
    simp
theorem cnt_put (v : List (κ × Int)) (k : κ) (x : Int) (k' : κ) : cnt (aPut v k x) k' = if k' = k then x else cnt v k' := by
  unfold cnt
  rw [aGet_put]
  split <;> rfl
/-- as many voters of k more -/
def add (v : List (κ × Int)) (k : κ) (m : Int) : List (κ × Int) := aPut v k (cnt v k + m)
theorem vsum_add_to {v : List (κ × Int)} (hn : KN v) (k : κ) (m : Int) (f : κ → Int) : vsum (add v k m) f = vsum v f + m * f k := by
  unfold add
  rw [vsum_put hn, show cnt v k + m - cnt v k = m by omega]
theorem cnt_add (v : List (κ × Int)) (k : κ) (m : Int) (k' : κ) : cnt (add v k m) k' = cnt v k' + if k' = k then m else 0 := by
  unfold add
  rw [cnt_put]
  split
  · rename_i e; rw [e]
  · omega
theorem KN.add {v : List (κ × Int)} (hn : KN v) (k : κ) (m : Int) : KN (Vt.add v k m) := hn.put _ _
theorem cnt_perm {v w : List (κ × Int)} (h : v.Perm w) (hn : KN v) (k : κ) : cnt v k = cnt w k := by
  unfold cnt; rw [aGet_perm h hn]
theorem cnt_vsum {v : List (κ × Int)} (hn : KN v) (k : κ) : cnt v k = vsum v fun o => if o = k then 1 else 0 := by
  induction v with
  | nil => rfl
  | cons p v ih =>
    unfold KN at hn
    rw [List.map_cons, List.nodup_cons] at hn
    unfold cnt at ih ⊢
    rw [aGet_cons, vsum_cons]
    by_cases e : p.1 = k
    · rw [if_pos e, if_pos e, vsum_zero fun q hq => if_neg fun (z : q.1 = k) => hn.1 (by rw [e, ← z]; exact List.mem_map.mpr ⟨q, hq, rfl⟩)]
      simp
    · rw [if_neg e, if_neg e, ih hn.2]
      omega
end
/-! ### ascending -/
/-- an order to sort by -/
structure Le {α : Type} (le : α → α → Bool) : Prop where
  total : ∀ a b, (le a b || le b a) = true
  trans : ∀ a b c, le a b = true → le b c = true → le a c = true
/-- what is the same by le is the same -/
def Anti {α : Type} (le : α → α → Bool) : Prop := ∀ a b, le a b = true → le b a = true → a = b
/-- keys ascending, none twice -/
def Up {κ β : Type} (le : κ → κ → Bool) (v : List (κ × β)) : Prop := v.Pairwise fun p q => le p.1 q.1 = true ∧ p.1 ≠ q.1
section
variable {κ β : Type} [DecidableEq κ] {le : κ → κ → Bool}
theorem Up.kn {v : List (κ × β)} (h : Up le v) : KN v := by
  unfold KN List.Nodup
  rw [List.pairwise_map]
  exact h.imp fun q => q.2
/-- two dicts that ascend and hold the same are one -/
theorem up_ext (ha : Anti le) {v w : List (κ × β)} (hv : Up le v) (hw : Up le w) (h : ∀ k, aGet v k = aGet w k) : v = w := by
  have nv : v.Nodup := (List.pairwise_map.mp hv.kn).imp fun {p q} (z : p.1 ≠ q.1) (e : p = q) => z (by rw [e])
  have nw : w.Nodup := (List.pairwise_map.mp hw.kn).imp fun {p q} (z : p.1 ≠ q.1) (e : p = q) => z (by rw [e])
  have hp : v.Perm w := (List.perm_ext_iff_of_nodup nv nw).mpr fun ⟨k, x⟩ => by
    rw [← aGet_iff hv.kn, ← aGet_iff hw.kn, h]
  refine List.Perm.eq_of_pairwise (le := fun p q => le p.1 q.1 = true) (fun p q hp hq h1 h2 => ?_) (hv.imp fun z => z.1) (hw.imp fun z => z.1) hp
  have e := ha _ _ h1 h2
  obtain ⟨k, x⟩ := p
  obtain ⟨k', y⟩ := q
  cases (show k = k' from e)
  have e1 := (aGet_iff hv.kn).mpr hp
  have e2 := (aGet_iff hw.kn).mpr hq
  rw [h, e2] at e1
  cases e1
  rfl
/-- sorted by its keys -/
def asc (le : κ → κ → Bool) (v : List (κ × β)) : List (κ × β) := v.mergeSort fun p q => le p.1 q.1
theorem asc_perm (le : κ → κ → Bool) (v : List (κ × β)) : (asc le v).Perm v := List.mergeSort_perm _ _
theorem asc_up (hl : Le le) {v : List (κ × β)} (hn : KN v) : Up le (asc le v) := by
  have h1 := List.pairwise_mergeSort (le := fun (p q : κ × β) => le p.1 q.1) (fun a b c => hl.trans _ _ _) (fun a b => hl.total _ _) v
  have h2 : KN (asc le v) := hn.perm (asc_perm le v).symm
  unfold KN List.Nodup at h2
  rw [List.pairwise_map] at h2
  exact List.Pairwise.and h1 h2
theorem asc_get (hl : Le le) {v : List (κ × β)} (hn : KN v) (k : κ) : aGet (asc le v) k = aGet v k := aGet_perm (asc_perm le v) (hn.perm (asc_perm le v).symm) k
theorem mem_asc {v : List (κ × β)} {p : κ × β} : p ∈ asc le v ↔ p ∈ v := (asc_perm le v).mem_iff
theorem asc_id (hl : Le le) (ha : Anti le) {v : List (κ × β)} (h : Up le v) : asc le v = v := up_ext ha (asc_up hl h.kn) h (asc_get hl h.kn)
theorem asc_of (hl : Le le) (ha : Anti le) {v w : List (κ × β)} (hn : KN v) (hw : Up le w) (h : ∀ k, aGet v k = aGet w k) : asc le v = w := up_ext ha (asc_up hl hn) hw fun k => (asc_get hl hn k).trans (h k)
theorem asc_congr (hl : Le le) (ha : Anti le) {v w : List (κ × β)} (hn : KN v) (hw : KN w) (h : ∀ k, aGet v k = aGet w k) : asc le v = asc le w := asc_of hl ha hn (asc_up hl hw) fun k => (h k).trans (asc_get hl hw k).symm
/-- sorted as pairs -/
theorem asc_pairs (ha : Anti le) {lp : κ × β → κ × β → Bool} (hlp : Le lp) (h1 : ∀ p q, lp p q = true → le p.1 q.1 = true) {v : List (κ × β)} (hn : KN v) (hl : Le le) : v.mergeSort lp = asc le v := by
  refine up_ext ha ?_ (asc_up hl hn) fun k => ?_
  · have h2 := List.pairwise_mergeSort (le := lp) (fun a b c => hlp.trans _ _ _) (fun a b => hlp.total _ _) v
    have h3 : KN (v.mergeSort lp) := hn.perm (List.mergeSort_perm _ _).symm
    unfold KN List.Nodup at h3
    rw [List.pairwise_map] at h3
    exact List.Pairwise.and (h2.imp fun z => h1 _ _ z) h3
  · rw [asc_get hl hn]
    exact aGet_perm (List.mergeSort_perm _ _) (hn.perm (List.mergeSort_perm _ _).symm) k
theorem asc_map_keys {v : List (κ × β)} : (asc le v).map (·.1) = (v.map (·.1)).mergeSort le := List.map_mergeSort fun _ _ _ _ => rfl
theorem vsum_asc (v : List (κ × Int)) (f : κ → Int) : vsum (asc le v) f = vsum v f := vsum_perm (asc_perm le v) f
theorem cnt_asc (hl : Le le) {v : List (κ × Int)} (hn : KN v) (k : κ) : cnt (asc le v) k = cnt v k := by unfold cnt; rw [asc_get hl hn]
/-- with their counts again -/
theorem asc_look {v : List (κ × β)} (hl : Le le) (hn : KN v) {δ : Type} (f : κ → β → δ) (g : κ → δ) (h : ∀ k x, aGet v k = some x → g k = f k x) : ((v.map (·.1)).mergeSort le).map g = (asc le v).map fun p => f p.1 p.2 := by
  rw [← asc_map_keys, List.map_map]
  exact List.map_congr_left fun p hp => h _ _ (aGet_of_mem hn (mem_asc.mp hp))
end
end Vt
/-! VB: orders, first maxima, points, who is ahead. -/
namespace Vt
/-- an order of n things -/
def IsOrd (n : Nat) (o : List Nat) : Prop := o.Perm (List.range n)
section
variable {n : Nat} {o : List Nat}
theorem IsOrd.len (h : IsOrd n o) : o.length = n := by rw [h.length_eq, List.length_range]
theorem IsOrd.nodup (h : IsOrd n o) : o.Nodup := h.symm.nodup List.nodup_range
theorem IsOrd.mem (h : IsOrd n o) {a : Nat} : a ∈ o ↔ a < n := by rw [h.mem_iff, List.mem_range]
theorem IsOrd.pos (h : IsOrd n o) {a : Nat} (ha : a < n) : o.idxOf a < n := by
  rw [← h.len]
  exact List.idxOf_lt_length_iff.mpr (h.mem.mpr ha)
theorem IsOrd.get (h : IsOrd n o) {a : Nat} (ha : a < n) : o[o.idxOf a]? = some a := by
  have : o.idxOf a < o.length := List.idxOf_lt_length_iff.mpr (h.mem.mpr ha)
  rw [List.getElem?_eq_getElem this, List.getElem_idxOf]
theorem IsOrd.inj (h : IsOrd n o) {a b : Nat} (ha : a < n) (hb : b < n) (e : o.idxOf a = o.idxOf b) : a = b := by
  have h1 := h.get ha
  have h2 := h.get hb
  rw [e, h2] at h1
  cases h1
  rfl
theorem IsOrd.at (h : IsOrd n o) {i : Nat} (hi : i < n) : ∃ a, a < n ∧ o[i]? = some a ∧ o.idxOf a = i := by
  have hi' : i < o.length := by rw [h.len]; exact hi
  exact ⟨o[i], h.mem.mp (List.getElem_mem hi'), List.getElem?_eq_getElem hi', h.nodup.idxOf_getElem i hi'⟩
theorem IsOrd.idx_map (h : IsOrd n o) : (o.map fun a => o.idxOf a) = List.range n := by
  refine List.ext_getElem (by rw [List.length_map, List.length_range, h.len]) fun i h1 h2 => ?_
  rw [List.getElem_map, List.getElem_range]
  exact h.nodup.idxOf_getElem i _
theorem IsOrd.isum_idx (h : IsOrd n o) (f : Nat → Int) : isum (List.range n) (fun a => f (o.idxOf a)) = isum (List.range n) f := by
  rw [← isum_perm h, ← isum_map o (fun a => o.idxOf a) f, h.idx_map]
theorem IsOrd.isum (h : IsOrd n o) (f : Nat → Int) : isum o f = Vt.isum (List.range n) f := isum_perm h f
end
/-! ### first maxima -/
/-- the first place of the greatest -/
structure FM (n : Nat) (s : Nat → Int) (c : Nat) : Prop where
  lt : c < n
  le : ∀ a, a < n → s a ≤ s c
  fst : ∀ a, a < c → s a < s c
theorem FM.uniq {n : Nat} {s : Nat → Int} {c d : Nat} (h : FM n s c) (k : FM n s d) : c = d := by
  rcases Nat.lt_trichotomy c d with q | q | q
  · have := k.fst c q; have := h.le d k.lt; omega
  · exact q
  · have := h.fst d q; have := k.le c h.lt; omega
def fm : Nat → (Nat → Int) → Nat
  | 0, _ => 0
  | 1, _ => 0
  | n + 2, s => if s (fm (n + 1) s) < s (n + 1) then n + 1 else fm (n + 1) s
theorem fm_is : ∀ {n : Nat} (s : Nat → Int), 0 < n → FM n s (fm n s)
  | 0, _, h => by omega
  | 1, s, _ => ⟨Nat.one_pos, fun a ha => by have : a = 0 := by omega
                                            subst this; exact Int.le_refl _, fun a ha => by unfold fm at ha; omega⟩
  | n + 2, s, _ => by
    have ih := fm_is (n := n + 1) s (by omega)
    rw [fm]
    split
    · rename_i q
      refine ⟨by omega, fun a ha => ?_, fun a ha => ?_⟩
      · by_cases e : a = n + 1
        · subst e; exact Int.le_refl _
        · have := ih.le a (by omega); omega
      · have := ih.le a (by omega); omega
    · rename_i q
      refine ⟨by have := ih.lt; omega, fun a ha => ?_, ih.fst⟩
      by_cases e : a = n + 1
      · subst e; omega
      · exact ih.le a (by omega)
def mx (n : Nat) (s : Nat → Int) : Int := s (fm n s)
theorem le_mx {n : Nat} {s : Nat → Int} {a : Nat} (h : a < n) : s a ≤ mx n s := (fm_is s (by omega)).le a h
theorem mx_at {n : Nat} (s : Nat → Int) (h : 0 < n) : ∃ a, a < n ∧ s a = mx n s := ⟨_, (fm_is s h).lt, rfl⟩
theorem mx_eq {n : Nat} {s : Nat → Int} {m : Int} {a : Nat} (ha : a < n) (e : s a = m) (h : ∀ b, b < n → s b ≤ m) : mx n s = m := by
  have h1 := le_mx (s := s) ha
  have h2 := h _ (fm_is s (show 0 < n by omega)).lt
  unfold mx at h1 ⊢
  omega
theorem fm_eq {n : Nat} {s : Nat → Int} {c : Nat} (h : FM n s c) : fm n s = c := (fm_is s (Nat.lt_of_le_of_lt (Nat.zero_le _) h.lt)).uniq h
theorem fm_congr {n : Nat} {s t : Nat → Int} (hn : 0 < n) (h : ∀ a, a < n → s a = t a) : fm n s = fm n t := by
  have f := fm_is t hn
  refine fm_eq ⟨f.lt, fun a ha => ?_, fun a ha => ?_⟩
  · rw [h a ha, h _ f.lt]; exact f.le a ha
  · rw [h a (by have := f.lt; omega), h _ f.lt]; exact f.fst a ha
theorem mx_congr {n : Nat} {s t : Nat → Int} (hn : 0 < n) (h : ∀ a, a < n → s a = t a) : mx n s = mx n t := by
  unfold mx
  rw [fm_congr hn h, h _ (fm_is t hn).lt]
/-- all places of the greatest -/
def wins (n : Nat) (s : Nat → Int) : List Nat := (List.range n).filter fun a => s a = mx n s
theorem mem_wins {n : Nat} {s : Nat → Int} {a : Nat} : a ∈ wins n s ↔ a < n ∧ s a = mx n s := by
  unfold wins
  rw [List.mem_filter, List.mem_range]
  simp
theorem fm_wins {n : Nat} {s : Nat → Int} (h : 0 < n) : fm n s ∈ wins n s := mem_wins.mpr ⟨(fm_is s h).lt, rfl⟩
theorem wins_ne {n : Nat} {s : Nat → Int} (h : 0 < n) : wins n s ≠ [] := fun e => by have := fm_wins (s := s) h; rw [e] at this; cases this
theorem wins_congr {n : Nat} {s t : Nat → Int} (hn : 0 < n) (h : ∀ a, a < n → s a = t a) : wins n s = wins n t := by
  unfold wins
  refine List.filter_congr fun a ha => ?_
  rw [h a (List.mem_range.mp ha), mx_congr hn h]
theorem fm_le_wins {n : Nat} {s : Nat → Int} {a : Nat} (h : a ∈ wins n s) : fm n s ≤ a := by
  obtain ⟨h1, h2⟩ := mem_wins.mp h
  rcases Nat.lt_or_ge a (fm n s) with q | q
  · have := (fm_is s (show 0 < n by omega)).fst a q
    unfold mx at h2
    omega
  · exact q
/-- the one place of the greatest -/
theorem wins_one {n : Nat} {s : Nat → Int} {a : Nat} (ha : a < n) (h : ∀ b, b < n → b ≠ a → s b < s a) : wins n s = [a] := by
  have e : mx n s = s a := mx_eq ha rfl fun b hb => by
    by_cases q : b = a
    · subst q; exact Int.le_refl _
    · have := h b hb q; omega
  unfold wins
  have h1 : (List.range n).filter (fun b => s b = mx n s) = (List.range n).filter (fun b => b == a) := by
    refine List.filter_congr fun b hb => ?_
    rw [e]
    by_cases q : b = a
    · subst q; simp
    · have := h b (List.mem_range.mp hb) q
      have e2 : (b == a) = false := by simpa using q
      rw [e2]
      simp
      omega
  rw [h1, List.filter_beq, List.nodup_range.count, if_pos (List.mem_range.mpr ha)]
  rfl
/-! ### sums of two rows of scores -/
theorem wins_sum {n : Nat} {s t : Nat → Int} (h : (wins n s).filter (fun a => decide (a ∈ wins n t)) ≠ []) : wins n (fun a => s a + t a) = (wins n s).filter (fun a => decide (a ∈ wins n t)) := by
  obtain ⟨c, hc⟩ := List.exists_mem_of_ne_nil _ h
  rw [List.mem_filter] at hc
  obtain ⟨h1, h2⟩ := hc
  have h2 := of_decide_eq_true h2
  obtain ⟨hc, e1⟩ := mem_wins.mp h1
  obtain ⟨_, e2⟩ := mem_wins.mp h2
  have e : mx n (fun a => s a + t a) = mx n s + mx n t := mx_eq hc (by show s c + t c = _; rw [e1, e2]) fun b hb => by
    show s b + t b ≤ _
    have := le_mx (s := s) hb
    have := le_mx (s := t) hb
    omega
  rw [show wins n s = (List.range n).filter fun a => s a = mx n s from rfl, List.filter_filter]
  rw [show wins n (fun a => s a + t a) = (List.range n).filter fun a => s a + t a = mx n (fun a => s a + t a) from rfl]
  refine List.filter_congr fun b hb => ?_
  have hb := List.mem_range.mp hb
  have := le_mx (s := s) hb
  have := le_mx (s := t) hb
  rw [e, Bool.eq_iff_iff]
  simp only [Bool.and_eq_true, decide_eq_true_eq, mem_wins]
  omega
/-! ### points by places -/
theorem getD_at {α : Type} {xs : List α} {i : Nat} (d : α) (h : i < xs.length) : xs.getD i d = xs[i] := by
  rw [List.getD_eq_getElem?_getD, List.getElem?_eq_getElem h, Option.getD_some]
def Desc (p : List Int) : Prop := p.Pairwise fun x y => y ≤ x
theorem Desc.le {p : List Int} (h : Desc p) {i j : Nat} (hij : i ≤ j) (hj : j < p.length) : p.getD j 0 ≤ p.getD i 0 := by
  rw [getD_at _ hj, getD_at _ (show i < p.length by omega)]
  rcases Nat.lt_or_eq_of_le hij with q | q
  · exact List.pairwise_iff_getElem.mp h i j (by omega) hj q
  · subst q; exact Int.le_refl _
/-- a's points of order o -/
def pt (p : List Int) (o : List Nat) (a : Nat) : Int := p.getD (o.idxOf a) 0
/-- a's score -/
def sc (p : List Int) (v : List Lot) (a : Nat) : Int := vsum v fun o => pt p o a
/-- voters who have a ahead of b -/
def ahead (v : List Lot) (a b : Nat) : Int := vsum v fun o => if o.idxOf a < o.idxOf b then 1 else 0
/-- votes of n things -/
structure VOk (n B : Nat) (le : List Nat → List Nat → Bool) (v : List Lot) : Prop where
  ne : v ≠ []
  up : Up le v
  ord : ∀ q ∈ v, IsOrd n q.1
  pos : ∀ q ∈ v, 0 < q.2
  len : v.length ≤ B
section
variable {n B : Nat} {le : List Nat → List Nat → Bool} {v : List Lot}
theorem VOk.pos0 (h : VOk n B le v) : ∀ q ∈ v, 0 ≤ q.2 := fun q hq => Int.le_of_lt (h.pos q hq)
theorem VOk.tot (h : VOk n B le v) : 0 < tot v := tot_pos h.ne h.pos
theorem VOk.mono (h : VOk n B le v) {B' : Nat} (hb : B ≤ B') : VOk n B' le v := ⟨h.ne, h.up, h.ord, h.pos, Nat.le_trans h.len hb⟩
theorem VOk.head (h : VOk n B le v) : ∃ o m w, v = (o, m) :: w ∧ IsOrd n o ∧ 0 < m := by
  cases v with
  | nil => exact (h.ne rfl).elim
  | cons p w => exact ⟨p.1, p.2, w, rfl, h.ord p List.mem_cons_self, h.pos p List.mem_cons_self⟩
/-- as many voters of o more, ascending -/
def put (le : List Nat → List Nat → Bool) (v : List Lot) (o : List Nat) (m : Int) : List Lot := asc le (add v o m)
theorem VOk.put (hl : Le le) (h : VOk n B le v) {o : List Nat} (ho : IsOrd n o) {m : Int} (hm : 0 < m) : VOk n (B + 1) le (Vt.put le v o m) := by
  have hk := h.up.kn
  have key : ∀ q ∈ Vt.put le v o m, q = (o, cnt v o + m) ∨ (q ∈ v ∧ q.1 ≠ o) := fun q hq => mem_aPut (mem_asc.mp hq)
  have h0 : 0 ≤ cnt v o := by
    rw [cnt_vsum hk]
    exact vsum_nonneg h.pos0 fun p _ => by split <;> omega
  refine ⟨fun e => ?_, asc_up hl (hk.add _ _), fun q hq => ?_, fun q hq => ?_, ?_⟩
  · have := (asc_perm le (add v o m)).length_eq
    unfold Vt.put at e
    rw [e] at this
    exact aPut_ne _ _ _ (List.length_eq_zero_iff.mp this.symm)
  · rcases key q hq with e | e
    · rw [e]; exact ho
    · exact h.ord q e.1
  · rcases key q hq with e | e
    · rw [e]; show 0 < cnt v o + m; omega
    · exact h.pos q e.1
  · unfold Vt.put
    rw [(asc_perm le (add v o m)).length_eq]
    have := aPut_length v o (cnt v o + m)
    have := h.len
    unfold add
    omega
theorem vsum_vput (h : VOk n B le v) (o : List Nat) (m : Int) (f : List Nat → Int) : vsum (put le v o m) f = vsum v f + m * f o := by
  unfold put
  rw [vsum_asc, vsum_add_to h.up.kn]
theorem sc_put (h : VOk n B le v) (p : List Int) (o : List Nat) (m : Int) (a : Nat) : sc p (put le v o m) a = sc p v a + m * pt p o a := vsum_vput h _ _ _
theorem ahead_self (v : List Lot) (a : Nat) : ahead v a a = 0 := vsum_zero fun p _ => if_neg (Nat.lt_irrefl _)
theorem ahead_add (h : VOk n B le v) {a b : Nat} (ha : a < n) (hb : b < n) (hab : a ≠ b) : ahead v a b + ahead v b a = tot v := by
  unfold ahead
  rw [← vsum_add, tot_eq]
  refine vsum_congr fun p hp => ?_
  have : p.1.idxOf a ≠ p.1.idxOf b := fun e => hab ((h.ord p hp).inj ha hb e)
  split <;> split <;> omega
theorem ahead_nonneg (h : VOk n B le v) (a b : Nat) : 0 ≤ ahead v a b := vsum_nonneg h.pos0 fun p _ => by split <;> omega
/-- all voters have a ahead of b -/
theorem ahead_all (h : VOk n B le v) {a b : Nat} (e : ahead v a b = tot v) : ∀ q ∈ v, q.1.idxOf a < q.1.idxOf b := by
  intro q hq
  rcases Nat.lt_or_ge (q.1.idxOf a) (q.1.idxOf b) with z | z
  · exact z
  · have : ahead v a b < tot v := by
      rw [tot_eq]
      refine vsum_lt h.pos (fun p _ => by split <;> omega) hq ?_
      rw [if_neg (by omega)]
      decide
    omega
/-! ### who comes -/
theorem come_step {s : Nat → Int} {p : List Int} {o : List Nat} (hp : Desc p) (ho : IsOrd n o) (hn : p.length = n) {m : Int} (hm : 0 ≤ m) (h0 : 0 < n) : o.idxOf (fm n fun a => s a + m * pt p o a) ≤ o.idxOf (fm n s) := by
  have f1 := fm_is s h0
  have f2 := fm_is (fun a => s a + m * pt p o a) h0
  revert f1 f2
  generalize fm n s = w
  generalize fm n (fun a => s a + m * pt p o a) = w'
  intro f1 f2
  rcases Nat.lt_or_ge (o.idxOf w) (o.idxOf w') with q | q
  · exfalso
    have h1 : pt p o w' ≤ pt p o w := hp.le (by omega) (by rw [hn]; exact ho.pos f2.lt)
    have h2 := Int.mul_le_mul_of_nonneg_left h1 hm
    have h3 := f1.le w' f2.lt
    have h4 : s w + m * pt p o w ≤ s w' + m * pt p o w' := f2.le w f1.lt
    rcases Nat.lt_trichotomy w w' with z | z | z
    · have : s w + m * pt p o w < s w' + m * pt p o w' := f2.fst w z
      omega
    · subst z; omega
    · have := f1.fst w' z
      omega
  · exact q
/-- enough voters of one order -/
theorem come_many {s : Nat → Int} {p : List Int} {o : List Nat} (hp : Desc p) (ho : IsOrd n o) (hn : p.length = n) {m lo : Int} (hm : 0 < m) (hlo : ∀ a, a < n → lo ≤ s a) (hhi : ∀ a, a < n → s a < lo + m) (h0 : 0 < n) {a : Nat} (ha : a ∈ wins n fun a => s a + m * pt p o a) : pt p o a = p.getD 0 0 := by
  obtain ⟨h1, h2⟩ := mem_wins.mp ha
  obtain ⟨c, hc, _, hi⟩ := ho.at h0
  have e : pt p o c = p.getD 0 0 := by unfold pt; rw [hi]
  have h3 : s c + m * pt p o c ≤ mx n fun a => s a + m * pt p o a := le_mx (s := fun a => s a + m * pt p o a) hc
  have h2 : s a + m * pt p o a = mx n fun a => s a + m * pt p o a := h2
  have h4 : pt p o a ≤ p.getD 0 0 := hp.le (Nat.zero_le _) (by rw [hn]; exact ho.pos h1)
  have := hlo c hc
  have := hhi a h1
  rw [e] at h3
  rcases Int.lt_or_eq_of_le h4 with q | q
  · exfalso
    have : m * pt p o a ≤ m * (p.getD 0 0 - 1) := Int.mul_le_mul_of_nonneg_left (by omega) (by omega)
    rw [Int.mul_sub] at this
    omega
  · exact q
/-- a winner first with those who come -/
theorem first_wins {s : Nat → Int} {p : List Int} {o : List Nat} (hp : Desc p) (ho : IsOrd n o) (hn : p.length = n) {m : Int} (hm : 0 < m) {a : Nat} (ha : a ∈ wins n s) (hf : o.idxOf a = 0) :
    a ∈ wins n (fun a => s a + m * pt p o a) ∧ (∀ b ∈ wins n (fun a => s a + m * pt p o a), b ∈ wins n s) ∧ (p.getD 0 0 ≠ p.getD 1 0 → wins n (fun a => s a + m * pt p o a) = [a]) := by
  obtain ⟨h1, h2⟩ := mem_wins.mp ha
  have e : pt p o a = p.getD 0 0 := by unfold pt; rw [hf]
  have h3 : ∀ b, b < n → pt p o b ≤ pt p o a := fun b hb => by rw [e]; exact hp.le (Nat.zero_le _) (by rw [hn]; exact ho.pos hb)
  have h4 : ∀ b, b < n → m * pt p o b ≤ m * pt p o a := fun b hb => Int.mul_le_mul_of_nonneg_left (h3 b hb) (by omega)
  have h5 : ∀ b, b < n → s b ≤ s a := fun b hb => by rw [h2]; exact le_mx hb
  have e2 : mx n (fun a => s a + m * pt p o a) = s a + m * pt p o a := mx_eq h1 rfl fun b hb => by
    show s b + m * pt p o b ≤ _
    have := h4 b hb
    have := h5 b hb
    omega
  refine ⟨mem_wins.mpr ⟨h1, e2.symm⟩, fun b hb => ?_, fun hne => ?_⟩
  · obtain ⟨h6, h7⟩ := mem_wins.mp hb
    have h7 : s b + m * pt p o b = _ := h7
    rw [e2] at h7
    refine mem_wins.mpr ⟨h6, ?_⟩
    have := h4 b h6
    have := h5 b h6
    omega
  · refine wins_one h1 fun b hb hba => ?_
    show s b + m * pt p o b < s a + m * pt p o a
    have hb0 : o.idxOf b ≠ 0 := fun z => hba (ho.inj hb h1 (z.trans hf.symm))
    have hl := ho.pos hb
    have h6 : pt p o b ≤ p.getD 1 0 := hp.le (by omega) (by rw [hn]; exact hl)
    have h7 : p.getD 1 0 ≤ p.getD 0 0 := hp.le (by omega) (by omega)
    have : m * pt p o b < m * pt p o a := Int.mul_lt_mul_of_pos_left (by rw [e]; omega) hm
    have := h5 b hb
    omega
/-! ### even points -/
def evenP (n : Nat) : List Int := (List.range n).map fun (i : Nat) => (n : Int) - 1 - (i : Int)
theorem evenP_len : (evenP n).length = n := by simp [evenP]
theorem evenP_at {i : Nat} (h : i < n) : (evenP n).getD i 0 = (n : Int) - 1 - i := by
  unfold evenP
  rw [getD_at _ (by simpa using h), List.getElem_map, List.getElem_range]
theorem evenP_desc : Desc (evenP n) := by
  unfold Desc evenP
  rw [List.pairwise_map]
  refine (List.pairwise_lt_range (n := n)).imp fun h => ?_
  omega
theorem above_count (n : Nat) {i : Nat} (h : i < n) : isum (List.range n) (fun j => if i < j then 1 else 0) = (n : Int) - 1 - i := by
  induction n with
  | zero => omega
  | succ n ih =>
    rw [isum_range_succ]
    by_cases e : i = n
    · subst e
      rw [isum_zero fun x hx => if_neg (by have := List.mem_range.mp hx; omega), if_neg (Nat.lt_irrefl _)]
      omega
    · rw [ih (by omega), if_pos (by omega)]
      omega
theorem pt_even {o : List Nat} (ho : IsOrd n o) {a : Nat} (ha : a < n) : pt (evenP n) o a = isum (List.range n) fun b => if o.idxOf a < o.idxOf b then 1 else 0 := by
  unfold pt
  rw [evenP_at (ho.pos ha), ho.isum_idx (fun j => if o.idxOf a < j then 1 else 0), above_count n (ho.pos ha)]
theorem sc_even (h : VOk n B le v) {a : Nat} (ha : a < n) : sc (evenP n) v a = isum (List.range n) fun b => ahead v a b := by
  unfold sc ahead
  rw [← vsum_isum]
  exact vsum_congr fun p hp => pt_even (h.ord p hp) ha
theorem sc_ahead_le {p : List Int} (h : VOk n B le v) (hp : Desc p) (hn : p.length = n) {a b : Nat} (hb : b < n) (e : ahead v a b = tot v) : sc p v b ≤ sc p v a :=
  vsum_le h.pos0 fun q hq => hp.le (Nat.le_of_lt (ahead_all h e q hq)) (by rw [hn]; exact (h.ord q hq).pos hb)
theorem sc_ahead_lt (h : VOk n B le v) {a b : Nat} (ha : a < n) (hb : b < n) (e : ahead v a b = tot v) : sc (evenP n) v b < sc (evenP n) v a := by
  obtain ⟨o, m, w, e1, e2, e3⟩ := h.head
  have hm : (o, m) ∈ v := by rw [e1]; exact List.mem_cons_self
  have key : ∀ q ∈ v, pt (evenP n) q.1 b < pt (evenP n) q.1 a := fun q hq => by
    have := ahead_all h e q hq
    unfold pt
    rw [evenP_at ((h.ord q hq).pos hb), evenP_at ((h.ord q hq).pos ha)]
    omega
  exact vsum_lt h.pos (fun q hq => Int.le_of_lt (key q hq)) hm (key _ hm)
/-! ### the first of all -/
def Beats (n : Nat) (v : List Lot) (f : Nat) : Prop := ∀ b, b < n → b ≠ f → ahead v b f < ahead v f b
theorem first_even (h : VOk n B le v) {f : Nat} (hf : f < n) (hn : 2 ≤ n) (hb : Beats n v f) : ((n : Int) - 1) * tot v < 2 * sc (evenP n) v f := by
  rw [sc_even h hf, ← isum_mul]
  have e : ((n : Int) - 1) * tot v = isum (List.range n) fun b => if b = f then 0 else tot v := by
    have h1 : isum (List.range n) (fun b => (if b = f then 0 else tot v) + if b = f then tot v else 0) = n * tot v := by
      rw [isum_congr (g := fun _ => tot v) fun b _ => by split <;> omega, isum_const, List.length_range]
    rw [isum_add, isum_single List.nodup_range (List.mem_range.mpr hf)] at h1
    rw [Int.sub_mul]
    omega
  rw [e]
  obtain ⟨c, hc, hcf⟩ : ∃ c, c < n ∧ c ≠ f := by
    by_cases z : f = 0
    · exact ⟨1, by omega, by omega⟩
    · exact ⟨0, by omega, by omega⟩
  have key : ∀ b, b < n → b ≠ f → tot v < 2 * ahead v f b := fun b hb' hbf => by
    have := ahead_add h hf hb' (Ne.symm hbf)
    have := hb b hb' hbf
    omega
  refine isum_lt (y := c) (fun b hb' => ?_) (List.mem_range.mpr hc) ?_
  · split
    · rename_i z; rw [z, ahead_self]; decide
    · rename_i z; exact Int.le_of_lt (key b (List.mem_range.mp hb') z)
  · rw [if_neg hcf]; exact key c hc hcf
end
end Vt
/-! VC: votes put together, told by their counts. -/
namespace Vt
section
variable {κ : Type} [DecidableEq κ] {le : κ → κ → Bool}
theorem aGet_filter {v : List (κ × Int)} (hn : KN v) (P : κ × Int → Bool) (k : κ) : aGet (v.filter P) k = (aGet v k).bind fun x => if P (k, x) = true then some x else none := by
  induction v with
  | nil => rfl
  | cons p v ih =>
    unfold KN at hn
    rw [List.map_cons, List.nodup_cons] at hn
    have ih := ih hn.2
    rw [aGet_cons, List.filter_cons]
    by_cases e : p.1 = k
    · rw [if_pos e, Option.bind_some]
      have hv : aGet v k = none := aGet_none.mpr fun q hq z => hn.1 (by rw [e, ← z]; exact List.mem_map.mpr ⟨q, hq, rfl⟩)
      rw [hv, Option.bind_none] at ih
      have ep : (k, p.2) = p := by rw [← e]
      rw [ep]
      split
      · rename_i h; rw [aGet_cons, if_pos e]
      · rename_i h; exact ih
    · rw [if_neg e]
      split
      · rw [aGet_cons, if_neg e]; exact ih
      · exact ih
theorem KN.filter {v : List (κ × Int)} (hn : KN v) (P : κ × Int → Bool) : KN (v.filter P) := by
  unfold KN at hn ⊢
  exact (List.filter_sublist.map _).nodup hn
theorem aGet_pos {v : List (κ × Int)} (hp : ∀ q ∈ v, 0 < q.2) (k : κ) : aGet v k = if 0 < cnt v k then some (cnt v k) else none := by
  unfold cnt
  cases e : aGet v k with
  | none => simp
  | some x =>
    have := hp _ (aGet_mem e)
    rw [if_pos (by simpa using this)]; rfl
theorem aGet_fpos {v : List (κ × Int)} (hn : KN v) (k : κ) : aGet (v.filter fun p => decide (0 < p.2)) k = if 0 < cnt v k then some (cnt v k) else none := by
  rw [aGet_filter hn]
  unfold cnt
  cases e : aGet v k with
  | none => simp
  | some x => simp
theorem canon_ext (ha : Anti le) {v w : List (κ × Int)} (hv : Up le v) (hw : Up le w) (pv : ∀ q ∈ v, 0 < q.2) (pw : ∀ q ∈ w, 0 < q.2) (h : ∀ k, cnt v k = cnt w k) : v = w :=
  up_ext ha hv hw fun k => by rw [aGet_pos pv, aGet_pos pw, h]
theorem cnt_nonneg {v : List (κ × Int)} (pv : ∀ q ∈ v, 0 ≤ q.2) (k : κ) : 0 ≤ cnt v k := by
  unfold cnt
  cases e : aGet v k with
  | none => exact Int.le_refl _
  | some x => exact pv _ (aGet_mem e)
/-- so many more of each -/
def adds (u xs : List (κ × Int)) : List (κ × Int) := xs.foldl (fun u p => add u p.1 p.2) u
theorem adds_cons (u : List (κ × Int)) (p : κ × Int) (xs : List (κ × Int)) : adds u (p :: xs) = adds (add u p.1 p.2) xs := rfl
theorem adds_append (u xs ys : List (κ × Int)) : adds u (xs ++ ys) = adds (adds u xs) ys := List.foldl_append
theorem KN.adds {u : List (κ × Int)} (hn : KN u) : ∀ xs, KN (Vt.adds u xs)
  | [] => hn
  | p :: xs => KN.adds (hn.add p.1 p.2) xs
theorem cnt_adds (u : List (κ × Int)) (k : κ) : ∀ xs, cnt (adds u xs) k = cnt u k + vsum xs fun o => if o = k then 1 else 0 := by
  intro xs
  induction xs generalizing u with
  | nil => simp [adds]
  | cons p xs ih =>
    rw [adds_cons, ih, cnt_add, vsum_cons]
    by_cases e : p.1 = k
    · rw [if_pos e, if_pos e.symm]; omega
    · rw [if_neg e, if_neg fun q => e q.symm]; omega
theorem vsum_adds {u : List (κ × Int)} (hn : KN u) (f : κ → Int) : ∀ xs, vsum (adds u xs) f = vsum u f + vsum xs f := by
  intro xs
  induction xs generalizing u with
  | nil => simp [adds]
  | cons p xs ih =>
    rw [adds_cons, ih (hn.add _ _), vsum_add_to hn, vsum_cons]
    omega
theorem adds_pos {u : List (κ × Int)} (hu : ∀ q ∈ u, 0 < q.2) : ∀ {xs : List (κ × Int)}, (∀ q ∈ xs, 0 < q.2) → ∀ q ∈ adds u xs, 0 < q.2 := by
  intro xs
  induction xs generalizing u with
  | nil => exact fun _ => hu
  | cons p xs ih =>
    intro h
    rw [adds_cons]
    refine ih (fun q hq => ?_) fun q hq => h q (List.mem_cons_of_mem _ hq)
    rcases mem_aPut hq with e | e
    · rw [e]
      have := h p List.mem_cons_self
      have := cnt_nonneg (fun q hq => Int.le_of_lt (hu q hq)) p.1
      show 0 < cnt u p.1 + p.2
      omega
    · exact hu q e.1
theorem adds_keys {P : κ → Prop} {u : List (κ × Int)} (hu : ∀ q ∈ u, P q.1) : ∀ {xs : List (κ × Int)}, (∀ q ∈ xs, P q.1) → ∀ q ∈ adds u xs, P q.1 := by
  intro xs
  induction xs generalizing u with
  | nil => exact fun _ => hu
  | cons p xs ih =>
    intro h
    rw [adds_cons]
    refine ih (fun q hq => ?_) fun q hq => h q (List.mem_cons_of_mem _ hq)
    rcases mem_aPut hq with e | e
    · rw [e]; exact h p List.mem_cons_self
    · exact hu q e.1
theorem adds_length (u : List (κ × Int)) : ∀ xs, (adds u xs).length ≤ u.length + xs.length := by
  intro xs
  induction xs generalizing u with
  | nil => exact Nat.le_refl _
  | cons p xs ih =>
    have := ih (add u p.1 p.2)
    have := aPut_length u p.1 (cnt u p.1 + p.2)
    rw [adds_cons, List.length_cons]
    unfold add at *
    omega
theorem adds_ne {u xs : List (κ × Int)} (h : u ≠ [] ∨ xs ≠ []) : adds u xs ≠ [] := by
  induction xs generalizing u with
  | nil => rcases h with h | h
           · exact h
           · exact (h rfl).elim
  | cons p xs ih => exact ih (.inl (aPut_ne _ _ _))
theorem adds_fresh (u xs : List (κ × Int)) (h : KN (u ++ xs)) : adds u xs = u ++ xs := by
  induction xs generalizing u with
  | nil => simp [adds]
  | cons p xs ih =>
    have h1 : aGet u p.1 = none := by
      rw [aGet_none]
      intro q hq e
      unfold KN at h
      rw [List.map_append, List.nodup_append] at h
      exact h.2.2 _ (List.mem_map.mpr ⟨q, hq, rfl⟩) _ (by rw [List.map_cons]; exact List.mem_cons_self) e
    rw [adds_cons]
    unfold add cnt
    rw [aPut_none _ h1, h1]
    have e : u ++ p :: xs = (u ++ [p]) ++ xs := by simp
    rw [e] at h ⊢
    rw [show ((Option.none : Option Int).getD 0 + p.2) = p.2 from Int.zero_add _]
    exact ih (u ++ [p]) h
theorem adds_nil {xs : List (κ × Int)} (h : KN xs) : adds [] xs = xs := adds_fresh [] xs h
/-- votes put together -/
def sumv (le : κ → κ → Bool) (v w : List (κ × Int)) : List (κ × Int) := asc le (adds v w)
end
section
variable {n B C : Nat} {le : List Nat → List Nat → Bool} {v w : List Lot}
theorem VOk.sumv (hl : Le le) (h : VOk n B le v) (h' : VOk n C le w) : VOk n (B + C) le (Vt.sumv le v w) := by
  have hk : KN (adds v w) := h.up.kn.adds w
  refine ⟨fun e => ?_, asc_up hl hk, fun q hq => adds_keys (P := IsOrd n) h.ord h'.ord q (mem_asc.mp hq), fun q hq => adds_pos h.pos h'.pos q (mem_asc.mp hq), ?_⟩
  · have := (asc_perm le (adds v w)).length_eq
    unfold Vt.sumv at e
    rw [e] at this
    exact adds_ne (.inl h.ne) (List.length_eq_zero_iff.mp this.symm)
  · unfold Vt.sumv
    rw [(asc_perm le _).length_eq]
    have := adds_length v w
    have := h.len
    have := h'.len
    omega
theorem vsum_sumv (h : VOk n B le v) (w : List Lot) (f : List Nat → Int) : vsum (sumv le v w) f = vsum v f + vsum w f := by
  unfold sumv
  rw [vsum_asc, vsum_adds h.up.kn]
theorem cnt_put' (hl : Le le) (h : VOk n B le v) (o : List Nat) (m : Int) (k : List Nat) : cnt (put le v o m) k = cnt v k + if k = o then m else 0 := by
  unfold put
  rw [cnt_asc hl (h.up.kn.add o m), cnt_add]
theorem cnt_sumv (hl : Le le) (h : VOk n B le v) (h' : VOk n C le w) (k : List Nat) : cnt (sumv le v w) k = cnt v k + cnt w k := by
  unfold sumv
  rw [cnt_asc hl (h.up.kn.adds w), cnt_adds, cnt_vsum h'.up.kn]
theorem VOk.ext (ha : Anti le) (h : VOk n B le v) (h' : VOk n C le w) (e : ∀ k, cnt v k = cnt w k) : v = w := canon_ext ha h.up h'.up h.pos h'.pos e
/-- one after the other -/
def puts (le : List Nat → List Nat → Bool) (v xs : List Lot) : List Lot := xs.foldl (fun v p => put le v p.1 p.2) v
theorem VOk.puts (hl : Le le) (h : VOk n B le v) : ∀ xs : List Lot, (∀ q ∈ xs, IsOrd n q.1 ∧ 0 < q.2) → VOk n (B + xs.length) le (Vt.puts le v xs) ∧ ∀ k, cnt (Vt.puts le v xs) k = cnt v k + vsum xs fun o => if o = k then 1 else 0 := by
  intro xs
  induction xs generalizing B v with
  | nil => exact fun _ => ⟨h, fun k => by simp [Vt.puts]⟩
  | cons p xs ih =>
    intro hx
    obtain ⟨h1, h2⟩ := hx p List.mem_cons_self
    obtain ⟨i1, i2⟩ := ih (h.put hl h1 h2) fun q hq => hx q (List.mem_cons_of_mem _ hq)
    refine ⟨?_, fun k => ?_⟩
    · rw [List.length_cons, show B + (xs.length + 1) = B + 1 + xs.length by omega]; exact i1
    · show cnt (Vt.puts le (Vt.put le v p.1 p.2) xs) k = _
      rw [i2, cnt_put' hl h, vsum_cons]
      by_cases e : p.1 = k
      · rw [if_pos e, if_pos e.symm]; omega
      · rw [if_neg e, if_neg fun q => e q.symm]; omega
theorem puts_sumv (hl : Le le) (ha : Anti le) (h : VOk n B le v) (h' : VOk n C le w) : puts le v w = sumv le v w := by
  obtain ⟨h1, h2⟩ := h.puts hl w fun q hq => ⟨h'.ord q hq, h'.pos q hq⟩
  exact h1.ext ha (h.sumv hl h') fun k => by rw [h2, cnt_sumv hl h h', cnt_vsum h'.up.kn]
end
end Vt
/-! VD: likes: lots of things, told so often. -/
namespace Vt
/-- likes of n things -/
structure LOk (n B : Nat) (le : List Nat → List Nat → Bool) (v : List Lot) : Prop where
  up : Up le v
  asc : ∀ q ∈ v, q.1.Pairwise (· < ·)
  lt : ∀ q ∈ v, ∀ a ∈ q.1, a < n
  pos : ∀ q ∈ v, 0 < q.2
  len : v.length ≤ B
/-- a lot of n things -/
def LotOk (n : Nat) (o : List Nat) : Prop := o.Pairwise (· < ·) ∧ ∀ a ∈ o, a < n
/-- how many like a -/
def lc (v : List Lot) (a : Nat) : Int := vsum v fun o => if a ∈ o then 1 else 0
section
variable {n B C : Nat} {le : List Nat → List Nat → Bool} {v w : List Lot}
theorem LOk.pos0 (h : LOk n B le v) : ∀ q ∈ v, 0 ≤ q.2 := fun q hq => Int.le_of_lt (h.pos q hq)
theorem LOk.lot (h : LOk n B le v) : ∀ q ∈ v, LotOk n q.1 := fun q hq => ⟨h.asc q hq, h.lt q hq⟩
theorem LOk.mono (h : LOk n B le v) {B' : Nat} (hb : B ≤ B') : LOk n B' le v := ⟨h.up, h.asc, h.lt, h.pos, Nat.le_trans h.len hb⟩
theorem LOk.nil : LOk n 0 le [] := ⟨List.Pairwise.nil, by simp, by simp, by simp, Nat.le_refl _⟩
theorem LOk.ext (ha : Anti le) (h : LOk n B le v) (h' : LOk n C le w) (e : ∀ f : List Nat → Int, vsum v f = vsum w f) : v = w :=
  canon_ext ha h.up h'.up h.pos h'.pos fun k => by rw [cnt_vsum h.up.kn, cnt_vsum h'.up.kn, e]
theorem vsum_fpos {κ : Type} {v : List (κ × Int)} (h : ∀ q ∈ v, 0 ≤ q.2) (f : κ → Int) : vsum (v.filter fun p => decide (0 < p.2)) f = vsum v f := by
  unfold vsum
  rw [isum_filter]
  refine isum_congr fun q hq => ?_
  have := h q hq
  by_cases e : 0 < q.2
  · rw [if_pos (by simpa using e)]
  · have : q.2 = 0 := by omega
    rw [if_neg (by simpa using e), this, Int.zero_mul]
/-- pairs gathered -/
def gath (le : List Nat → List Nat → Bool) (ps : List Lot) : List Lot := (asc le (adds [] ps)).filter fun p => decide (0 < p.2)
theorem adds_nonneg {u : List Lot} (hu : ∀ q ∈ u, 0 ≤ q.2) : ∀ {xs : List Lot}, (∀ q ∈ xs, 0 ≤ q.2) → ∀ q ∈ adds u xs, 0 ≤ q.2 := by
  intro xs
  induction xs generalizing u with
  | nil => exact fun _ => hu
  | cons p xs ih =>
    intro h
    rw [adds_cons]
    refine ih (fun q hq => ?_) fun q hq => h q (List.mem_cons_of_mem _ hq)
    rcases mem_aPut hq with e | e
    · rw [e]
      have := h p List.mem_cons_self
      have := cnt_nonneg hu p.1
      show 0 ≤ cnt u p.1 + p.2
      omega
    · exact hu q e.1
theorem knil : KN ([] : List Lot) := List.nodup_nil
theorem vsum_gath {ps : List Lot} (h : ∀ q ∈ ps, 0 ≤ q.2) (f : List Nat → Int) : vsum (gath le ps) f = vsum ps f := by
  unfold gath
  have h1 : ∀ q ∈ asc le (adds [] ps), 0 ≤ q.2 := fun q hq => adds_nonneg (u := []) (by simp) h q (mem_asc.mp hq)
  rw [vsum_fpos h1, vsum_asc, vsum_adds knil, vsum_nil, Int.zero_add]
theorem LOk.gath (hl : Le le) {ps : List Lot} (h : ∀ q ∈ ps, LotOk n q.1) : LOk n ps.length le (Vt.gath le ps) := by
  have hk : ∀ q ∈ Vt.gath le ps, LotOk n q.1 := fun q hq => adds_keys (P := LotOk n) (u := []) (by simp) h q (mem_asc.mp (List.mem_filter.mp hq).1)
  refine ⟨(asc_up hl (knil.adds ps)).sublist List.filter_sublist, fun q hq => (hk q hq).1, fun q hq => (hk q hq).2, fun q hq => by simpa using (List.mem_filter.mp hq).2, ?_⟩
  have h1 := List.length_filter_le (fun p : Lot => decide (0 < p.2)) (Vt.asc le (adds [] ps))
  have h2 := (asc_perm le (adds [] ps)).length_eq
  have h3 := adds_length [] ps
  unfold Vt.gath
  simp at h3
  omega
theorem gath_pos {ps : List Lot} (h : ∀ q ∈ ps, 0 < q.2) : gath le ps = asc le (adds [] ps) := by
  unfold gath
  rw [List.filter_eq_self]
  intro q hq
  exact decide_eq_true (adds_pos (u := []) (by simp) h q (mem_asc.mp hq))
theorem lc_nonneg (h : LOk n B le v) (a : Nat) : 0 ≤ lc v a := vsum_nonneg h.pos0 fun p _ => by split <;> omega
/-- ascending rows with the same things are one -/
theorem asc_ext {a b : List Nat} (ha : a.Pairwise (· < ·)) (hb : b.Pairwise (· < ·)) (h : ∀ x, x ∈ a ↔ x ∈ b) : a = b := by
  have na : a.Nodup := ha.imp fun h => Nat.ne_of_lt h
  have nb : b.Nodup := hb.imp fun h => Nat.ne_of_lt h
  exact List.Perm.eq_of_pairwise (le := (· < ·)) (fun x y _ _ h1 h2 => by omega) ha hb ((List.perm_ext_iff_of_nodup na nb).mpr h)
/-- what a lot leaves -/
def comp (n : Nat) (o : List Nat) : List Nat := (List.range n).filter fun a => decide (a ∉ o)
theorem mem_comp {o : List Nat} {a : Nat} : a ∈ comp n o ↔ a < n ∧ a ∉ o := by
  unfold comp
  rw [List.mem_filter, List.mem_range, decide_eq_true_eq]
theorem comp_ok (o : List Nat) : LotOk n (comp n o) := ⟨List.pairwise_lt_range.sublist List.filter_sublist, fun a ha => (mem_comp.mp ha).1⟩
/-- the first k things, ascending -/
def topk (k : Nat) (o : List Nat) : List Nat := (o.take k).mergeSort
theorem mem_topk {o : List Nat} (ho : IsOrd n o) {k a : Nat} (ha : a < n) : a ∈ topk k o ↔ o.idxOf a < k := by
  unfold topk
  rw [List.mem_mergeSort]
  constructor
  · intro h
    obtain ⟨i, hi, e⟩ := List.mem_iff_getElem.mp h
    rw [List.length_take] at hi
    rw [List.getElem_take] at e
    have := (ho.nodup).idxOf_getElem i (by omega)
    rw [e] at this
    omega
  · intro h
    have hl : o.idxOf a < o.length := List.idxOf_lt_length_iff.mpr (ho.mem.mpr ha)
    exact List.mem_iff_getElem.mpr ⟨o.idxOf a, by rw [List.length_take]; omega, by rw [List.getElem_take]; exact List.getElem_idxOf hl⟩
theorem topk_ok {o : List Nat} (ho : IsOrd n o) (k : Nat) : LotOk n (topk k o) := by
  refine ⟨?_, fun a ha => ?_⟩
  · have h1 := List.pairwise_mergeSort (le := fun (a b : Nat) => decide (a ≤ b)) (fun a b c h1 h2 => by simp at *; omega) (fun a b => by simp; omega) (o.take k)
    have h2 : (topk k o).Nodup := (List.mergeSort_perm _ _).symm.nodup (ho.nodup.sublist (List.take_sublist k o))
    refine (List.Pairwise.and h1 h2).imp fun {a b} h => ?_
    have h3 : a ≤ b := by simpa using h.1
    have h4 : a ≠ b := h.2
    omega
  · unfold topk at ha
    rw [List.mem_mergeSort] at ha
    exact ho.mem.mp (List.mem_of_mem_take ha)
theorem rev_ord {o : List Nat} (ho : IsOrd n o) : IsOrd n o.reverse := (List.reverse_perm o).trans ho
theorem rev_idx {o : List Nat} (ho : IsOrd n o) {a : Nat} (ha : a < n) : o.reverse.idxOf a = n - 1 - o.idxOf a := by
  have h1 := ho.pos ha
  have hl := ho.len
  have e : o.reverse[n - 1 - o.idxOf a]? = some a := by
    rw [List.getElem?_reverse (by omega), show o.length - 1 - (n - 1 - o.idxOf a) = o.idxOf a by omega]
    exact ho.get ha
  obtain ⟨hi, e2⟩ := List.getElem?_eq_some_iff.mp e
  have := (rev_ord ho).nodup.idxOf_getElem _ hi
  rw [e2] at this
  exact this
theorem comp_topk {o : List Nat} (ho : IsOrd n o) {k : Nat} (hk : k ≤ n) : comp n (topk k o) = topk (n - k) o.reverse := by
  refine asc_ext (comp_ok _).1 (topk_ok (rev_ord ho) _).1 fun a => ?_
  by_cases ha : a < n
  · rw [mem_comp, mem_topk ho ha, mem_topk (rev_ord ho) ha, rev_idx ho ha]
    have := ho.pos ha
    omega
  · constructor
    · intro h; exact absurd (mem_comp.mp h).1 ha
    · intro h; exact absurd ((topk_ok (rev_ord ho) _).2 a h) ha
/-- likes of the first k things -/
def lk (le : List Nat → List Nat → Bool) (k : Nat) (v : List Lot) : List Lot := gath le (v.map fun q => (topk k q.1, q.2))
theorem vsum_lk (h : ∀ q ∈ v, 0 ≤ q.2) (k : Nat) (f : List Nat → Int) : vsum (lk le k v) f = vsum v fun o => f (topk k o) := by
  unfold lk
  rw [vsum_gath fun q hq => ?_]
  · unfold vsum; rw [isum_map]
  · obtain ⟨q', hq', rfl⟩ := List.mem_map.mp hq
    exact h q' hq'
theorem lk_ok (hl : Le le) (h : VOk n B le v) (k : Nat) : LOk n B le (lk le k v) := by
  refine (LOk.gath hl fun q hq => ?_).mono (by rw [List.length_map]; exact h.len)
  obtain ⟨q', hq', rfl⟩ := List.mem_map.mp hq
  exact topk_ok (h.ord q' hq') k
/-- voters who have a among their first k -/
def tc (v : List Lot) (a k : Nat) : Int := vsum v fun o => if o.idxOf a < k then 1 else 0
theorem lc_lk (h : VOk n B le v) {a : Nat} (ha : a < n) (k : Nat) : lc (lk le k v) a = tc v a k := by
  unfold lc tc
  rw [vsum_lk h.pos0]
  refine vsum_congr fun p hp => ?_
  by_cases e : p.1.idxOf a < k
  · rw [if_pos e, if_pos ((mem_topk (h.ord p hp) ha).mpr e)]
  · rw [if_neg e, if_neg fun z => e ((mem_topk (h.ord p hp) ha).mp z)]
theorem tc_all (h : VOk n B le v) {a k : Nat} (ha : a < n) (hk : n ≤ k) : tc v a k = tot v := by
  unfold tc
  rw [tot_eq]
  exact vsum_congr fun p hp => if_pos (by have := (h.ord p hp).pos ha; omega)
/-- turned about -/
def tnl (le : List Nat → List Nat → Bool) (n : Nat) (v : List Lot) : List Lot := gath le (v.map fun q => (comp n q.1, q.2))
theorem vsum_tnl (h : ∀ q ∈ v, 0 ≤ q.2) (f : List Nat → Int) : vsum (tnl le n v) f = vsum v fun o => f (comp n o) := by
  unfold tnl
  rw [vsum_gath fun q hq => ?_]
  · unfold vsum; rw [isum_map]
  · obtain ⟨q', hq', rfl⟩ := List.mem_map.mp hq
    exact h q' hq'
theorem tnl_ok (hl : Le le) (h : LOk n B le v) : LOk n B le (tnl le n v) := by
  refine (LOk.gath hl fun q hq => ?_).mono (by rw [List.length_map]; exact h.len)
  obtain ⟨q', hq', rfl⟩ := List.mem_map.mp hq
  exact comp_ok _
theorem lc_tnl (h : ∀ q ∈ v, 0 ≤ q.2) {a : Nat} (ha : a < n) : lc (tnl le n v) a = tot v - lc v a := by
  unfold lc
  rw [vsum_tnl h, tot_eq, ← vsum_sub]
  refine vsum_congr fun p _ => ?_
  by_cases e : a ∈ p.1
  · rw [if_pos e, if_neg fun z => (mem_comp.mp z).2 e]; rfl
  · rw [if_neg e, if_pos (mem_comp.mpr ⟨ha, e⟩)]; rfl
/-- votes turned about -/
def tnv (le : List Nat → List Nat → Bool) (v : List Lot) : List Lot := asc le (adds [] (v.map fun q => (q.1.reverse, q.2)))
theorem vsum_tnv (f : List Nat → Int) : vsum (tnv le v) f = vsum v fun o => f o.reverse := by
  unfold tnv
  rw [vsum_asc, vsum_adds knil, vsum_nil, Int.zero_add]
  unfold vsum; rw [isum_map]
theorem tnv_ok (hl : Le le) (h : VOk n B le v) : VOk n B le (tnv le v) := by
  have hm : ∀ q ∈ v.map (fun q : Lot => (q.1.reverse, q.2)), IsOrd n q.1 ∧ 0 < q.2 := fun q hq => by
    obtain ⟨q', hq', rfl⟩ := List.mem_map.mp hq
    exact ⟨rev_ord (h.ord q' hq'), h.pos q' hq'⟩
  refine ⟨fun e => ?_, asc_up hl (knil.adds _), fun q hq => adds_keys (P := IsOrd n) (u := []) (by simp) (fun q hq => (hm q hq).1) q (mem_asc.mp hq), fun q hq => adds_pos (u := []) (by simp) (fun q hq => (hm q hq).2) q (mem_asc.mp hq), ?_⟩
  · have := (asc_perm le (adds [] (v.map fun q : Lot => (q.1.reverse, q.2)))).length_eq
    unfold tnv at e
    rw [e] at this
    exact adds_ne (.inr fun z => h.ne (List.map_eq_nil_iff.mp z)) (List.length_eq_zero_iff.mp this.symm)
  · unfold tnv
    rw [(asc_perm le _).length_eq]
    have h1 := adds_length [] (v.map fun q : Lot => (q.1.reverse, q.2))
    have := h.len
    simp at h1
    omega
theorem turned_lk (hl : Le le) (ha : Anti le) (h : VOk n B le v) {k : Nat} (hk : k ≤ n) : tnl le n (lk le k v) = lk le (n - k) (tnv le v) := by
  have h1 := lk_ok hl h k
  have h2 := tnv_ok hl h
  refine (tnl_ok hl h1).ext ha (lk_ok hl h2 (n - k)) fun f => ?_
  rw [vsum_tnl h1.pos0, vsum_lk h.pos0, vsum_lk h2.pos0, vsum_tnv]
  exact vsum_congr fun p hp => by rw [comp_topk (h.ord p hp) hk]
/-- who is liked more -/
def more (v : List Lot) (a b : Nat) : Int := vsum v fun o => if a ∈ o ∧ b ∉ o then 1 else 0
theorem more_sub (a b : Nat) : more v a b - more v b a = lc v a - lc v b := by
  unfold more lc
  rw [← vsum_sub, ← vsum_sub]
  refine vsum_congr fun p _ => ?_
  by_cases e1 : a ∈ p.1 <;> by_cases e2 : b ∈ p.1 <;> simp [e1, e2]
theorem more_lt (a b : Nat) : more v b a < more v a b ↔ lc v b < lc v a := by
  have := more_sub (v := v) a b
  omega
/-! ### put together, told often -/
theorem vsum_times {c : Int} (hc : 0 ≤ c) (h : ∀ q ∈ v, 0 ≤ q.2) (f : List Nat → Int) : vsum (gath le (v.map fun q => (q.1, c * q.2))) f = c * vsum v f := by
  rw [vsum_gath fun q hq => ?_]
  · unfold vsum
    rw [isum_map, ← isum_mul]
    exact isum_congr fun p _ => Int.mul_assoc _ _ _
  · obtain ⟨q', hq', rfl⟩ := List.mem_map.mp hq
    exact Int.mul_nonneg hc (h q' hq')
theorem times_ok (hl : Le le) (h : LOk n B le v) (c : Int) : LOk n B le (gath le (v.map fun q => (q.1, c * q.2))) := by
  refine (LOk.gath hl fun q hq => ?_).mono (by rw [List.length_map]; exact h.len)
  obtain ⟨q', hq', rfl⟩ := List.mem_map.mp hq
  exact h.lot q' hq'
theorem vsum_both (h : ∀ q ∈ v, 0 ≤ q.2) (h' : ∀ q ∈ w, 0 ≤ q.2) (f : List Nat → Int) : vsum (gath le (v ++ w)) f = vsum v f + vsum w f := by
  rw [vsum_gath fun q hq => (List.mem_append.mp hq).elim (h q) (h' q), vsum_append]
theorem both_ok (hl : Le le) (h : LOk n B le v) (h' : LOk n C le w) : LOk n (B + C) le (gath le (v ++ w)) :=
  (LOk.gath hl fun q hq => (List.mem_append.mp hq).elim (h.lot q) (h'.lot q)).mono (by rw [List.length_append]; have := h.len; have := h'.len; omega)
/-! ### points by steps -/
theorem sc_steps (h : VOk n B le v) {st : List Int} (hs : st.length + 1 = n) {p : List Int} (hp : ∀ i, i < n → p.getD i 0 = isum (List.range (n - 1)) fun j => if i ≤ j then st.getD j 0 else 0) {a : Nat} (ha : a < n) :
    sc p v a = isum (List.range (n - 1)) fun j => st.getD j 0 * tc v a (j + 1) := by
  unfold sc tc
  rw [isum_congr (g := fun j => vsum v fun o => st.getD j 0 * if o.idxOf a < j + 1 then 1 else 0) fun j _ => (vsum_mul _ _ _).symm, ← vsum_isum]
  refine vsum_congr fun q hq => ?_
  unfold pt
  rw [hp _ ((h.ord q hq).pos ha)]
  refine isum_congr fun j _ => ?_
  by_cases e : q.1.idxOf a ≤ j
  · rw [if_pos e, if_pos (by omega), Int.mul_one]
  · rw [if_neg e, if_neg (by omega), Int.mul_zero]
/-- points told by their steps -/
theorem pt_steps {p : List Int} {n : Nat} (hn : p.length = n) {i : Nat} (hi : i < n) : p.getD i 0 = p.getD (n - 1) 0 + isum (List.range (n - 1)) fun j => if i ≤ j then p.getD j 0 - p.getD (j + 1) 0 else 0 := by
  have key : ∀ m, i ≤ m → isum (List.range m) (fun j => if i ≤ j then p.getD j 0 - p.getD (j + 1) 0 else 0) = p.getD i 0 - p.getD m 0 := by
    intro m
    induction m with
    | zero =>
      intro h
      have : i = 0 := by omega
      subst this
      simp
    | succ m ih =>
      intro h
      rw [isum_range_succ]
      by_cases e : i ≤ m
      · rw [ih e, if_pos e]; omega
      · have : i = m + 1 := by omega
        subst this
        rw [if_neg e, isum_zero fun x hx => if_neg (by have := List.mem_range.mp hx; omega)]
        omega
  rw [key (n - 1) (by omega)]
  omega
theorem sc_abel (h : VOk n B le v) {p : List Int} (hn : p.length = n) {a : Nat} (ha : a < n) : sc p v a = tot v * p.getD (n - 1) 0 + isum (List.range (n - 1)) fun j => (p.getD j 0 - p.getD (j + 1) 0) * tc v a (j + 1) := by
  unfold sc tc
  rw [isum_congr (g := fun j => vsum v fun o => (p.getD j 0 - p.getD (j + 1) 0) * if o.idxOf a < j + 1 then 1 else 0) fun j _ => (vsum_mul _ _ _).symm, ← vsum_isum, ← vsum_const, ← vsum_add]
  refine vsum_congr fun q hq => ?_
  unfold pt
  rw [pt_steps hn ((h.ord q hq).pos ha)]
  congr 1
  refine isum_congr fun j _ => ?_
  by_cases e : q.1.idxOf a ≤ j
  · rw [if_pos e, if_pos (by omega), Int.mul_one]
  · rw [if_neg e, if_neg (by omega), Int.mul_zero]
/-- as many among the first k, for all k: as many points -/
theorem sc_tc_le (h : VOk n B le v) {p : List Int} (hn : p.length = n) (hd : Desc p) {a b : Nat} (ha : a < n) (hb : b < n) (ht : ∀ k, 1 ≤ k → k < n → tc v b k ≤ tc v a k) : sc p v b ≤ sc p v a := by
  rw [sc_abel h hn ha, sc_abel h hn hb]
  refine Int.add_le_add_left (isum_le fun j hj => ?_) _
  have hj := List.mem_range.mp hj
  exact Int.mul_le_mul_of_nonneg_left (ht (j + 1) (by omega) (by omega)) (by have := hd.le (show j ≤ j + 1 by omega) (by omega); omega)
end
end Vt
/-! VE: steps of counts; votes of points put together. -/
namespace Vt
section
variable {n B : Nat} {le : List Nat → List Nat → Bool} {v : List Lot}
theorem count_below (m t : Nat) : isum (List.range m) (fun j => if j < t then 1 else 0) = ((min t m : Nat) : Int) := by
  induction m with
  | zero => simp
  | succ m ih =>
    rw [isum_range_succ, ih]
    by_cases e : m < t
    · rw [if_pos e]; omega
    · rw [if_neg e]; omega
/-- the steps of counts -/
def stepsP (n : Nat) (c : Nat → Int) (lo hi : Int) : List Lot := (List.range n, lo) :: (List.range (hi - lo).toNat).map fun (j : Nat) => ((List.range n).filter fun a => decide (lo + 1 + (j : Int) ≤ c a), (1 : Int))
theorem lc_steps {c : Nat → Int} {lo hi : Int} (h0 : 0 ≤ lo) (hl : ∀ a, a < n → lo ≤ c a) (hh : ∀ a, a < n → c a ≤ hi) {a : Nat} (ha : a < n) : lc (gath le (stepsP n c lo hi)) a = c a := by
  unfold lc
  rw [vsum_gath fun q hq => ?_]
  · unfold stepsP
    rw [vsum_cons]
    unfold vsum
    rw [isum_map, isum_congr (g := fun j => if j < (c a - lo).toNat then 1 else 0) fun j _ => ?_, count_below]
    · rw [if_pos (List.mem_range.mpr ha)]
      have := hl a ha
      have := hh a ha
      omega
    · have hm : a ∈ ((List.range n).filter fun a => decide (lo + 1 + (j : Int) ≤ c a)) ↔ lo + 1 + (j : Int) ≤ c a := by
        rw [List.mem_filter, List.mem_range, decide_eq_true_eq]
        exact ⟨fun z => z.2, fun z => ⟨ha, z⟩⟩
      show (1 : Int) * (if a ∈ ((List.range n).filter fun a => decide (lo + 1 + (j : Int) ≤ c a)) then 1 else 0) = _
      by_cases e : lo + 1 + (j : Int) ≤ c a
      · rw [if_pos (hm.mpr e), if_pos (by omega), Int.one_mul]
      · rw [if_neg (fun z => e (hm.mp z)), if_neg (by omega), Int.one_mul]
  · unfold stepsP at hq
    rcases List.mem_cons.mp hq with e | e
    · rw [e]; exact h0
    · obtain ⟨j, _, rfl⟩ := List.mem_map.mp e
      exact Int.le_of_lt Int.one_pos
/-- so many times the first k things, for each k -/
def dl (le : List Nat → List Nat → Bool) (v : List Lot) (st : List Nat) (i : Nat) : List Lot := ((List.range i).map fun j => if 0 < st.getD j 0 then (lk le (j + 1) v).map fun p => (p.1, p.2 * ((st.getD j 0 : Nat) : Int)) else []).flatten
theorem dl_succ (v : List Lot) (st : List Nat) (i : Nat) : dl le v st (i + 1) = dl le v st i ++ if 0 < st.getD i 0 then (lk le (i + 1) v).map fun p => (p.1, p.2 * ((st.getD i 0 : Nat) : Int)) else [] := by
  unfold dl
  rw [List.range_succ, List.map_append, List.flatten_append]
  simp
theorem vsum_dl (v : List Lot) (st : List Nat) (i : Nat) (f : List Nat → Int) : vsum (dl le v st i) f = isum (List.range i) fun j => ((st.getD j 0 : Nat) : Int) * vsum (lk le (j + 1) v) f := by
  induction i with
  | zero => rfl
  | succ i ih =>
    rw [dl_succ, vsum_append, ih, isum_range_succ]
    congr 1
    split
    · unfold vsum
      rw [isum_map, ← isum_mul]
      refine isum_congr fun p _ => ?_
      show p.2 * _ * _ = _
      rw [Int.mul_comm p.2, Int.mul_assoc]
    · have : st.getD i 0 = 0 := by omega
      rw [this]; simp
theorem dl_mem (hl : Le le) (h : VOk n B le v) (st : List Nat) (i : Nat) : ∀ q ∈ dl le v st i, LotOk n q.1 ∧ 0 < q.2 := by
  induction i with
  | zero => intro q hq; cases hq
  | succ i ih =>
    intro q hq
    rw [dl_succ] at hq
    rcases List.mem_append.mp hq with e | e
    · exact ih q e
    · split at e
      · rename_i hs
        obtain ⟨p, hp, rfl⟩ := List.mem_map.mp e
        have hk := lk_ok hl h (i + 1)
        exact ⟨hk.lot p hp, Int.mul_pos (hk.pos p hp) (by omega)⟩
      · cases e
theorem dl_len (hl : Le le) (h : VOk n B le v) (st : List Nat) (i : Nat) : (dl le v st i).length ≤ i * B := by
  induction i with
  | zero => exact Nat.zero_le _
  | succ i ih =>
    rw [dl_succ, List.length_append, Nat.succ_mul]
    have hk := (lk_ok hl h (i + 1)).len
    refine Nat.add_le_add ih ?_
    split
    · rw [List.length_map]; exact hk
    · exact Nat.zero_le _
theorem lk_ne (h : VOk n B le v) (k : Nat) : lk le k v ≠ [] := fun e => by
  have h1 := vsum_lk (le := le) h.pos0 k fun _ => 1
  rw [e, vsum_nil, ← tot_eq] at h1
  have := h.tot
  omega
theorem dl_ne (h : VOk n B le v) {st : List Nat} {i j : Nat} (hj : j < i) (hs : 0 < st.getD j 0) : dl le v st i ≠ [] := by
  intro e
  have h1 := vsum_dl (le := le) v st i fun _ => 1
  rw [e, vsum_nil] at h1
  have h2 := isum_lt (xs := List.range i) (f := fun _ => (0 : Int)) (g := fun j => ((st.getD j 0 : Nat) : Int) * vsum (lk le (j + 1) v) fun _ => 1) (fun j _ => Int.mul_nonneg (by omega) (by rw [vsum_lk h.pos0, ← tot_eq]; exact Int.le_of_lt h.tot)) (List.mem_range.mpr hj) (Int.mul_pos (by omega) (by rw [vsum_lk h.pos0, ← tot_eq]; exact h.tot))
  rw [isum_zero fun _ _ => rfl] at h2
  omega
theorem isum_drop (st : List Nat) (m : Nat) (hm : st.length = m) (k : Nat) : isum (st.drop k) (fun z => ((z : Nat) : Int)) = isum (List.range m) fun j => if k ≤ j then ((st.getD j 0 : Nat) : Int) else 0 := by
  subst hm
  induction st generalizing k with
  | nil => simp
  | cons s st ih =>
    have e : isum (List.range (s :: st).length) (fun j => if k ≤ j then (((s :: st).getD j 0 : Nat) : Int) else 0) = (if k ≤ 0 then (s : Int) else 0) + isum (List.range st.length) fun j => if k ≤ j + 1 then ((st.getD j 0 : Nat) : Int) else 0 := by
      rw [List.length_cons, List.range_succ_eq_map, isum_cons, isum_map]
      rfl
    rw [e]
    cases k with
    | zero =>
      rw [List.drop_zero, isum_cons, if_pos (Nat.le_refl _), ← List.drop_zero (l := st), ih 0]
      congr 1
    | succ k =>
      rw [List.drop_succ_cons, ih k, if_neg (by omega), Int.zero_add]
      refine isum_congr fun j _ => ?_
      by_cases e : k ≤ j
      · rw [if_pos e, if_pos (by omega)]
      · rw [if_neg e, if_neg (by omega)]
end
end Vt
/-! PA: plain words for data: what is written as data, equal, ordered; loops and lists built. -/
namespace PL
open DL Vt
abbrev nD (a : Nat) : D := .int (a : Int)
abbrev iD (xs : List Int) : D := .tup (xs.map D.int)
abbrev oD (o : List Nat) : D := .tup (o.map nD)
abbrev lD (p : Lot) : D := .tup [oD p.1, .int p.2]
abbrev vD (v : List Lot) : D := .tup (v.map lD)
/-- α as data -/
structure Emb {α : Type} [DecidableEq α] (k : Nat) (f : α → D) : Prop where
  pl : ∀ n x, k ≤ n → DL.plain n (f x) = true
  eq : ∀ x y, eqD (f x) (f y) = decide (x = y)
  al : ∀ x y, alikeD (f x) (f y) = true
section
variable {α β : Type} [DecidableEq α] [DecidableEq β] {k l : Nat} {f : α → D} {g : β → D}
theorem Emb.pls (h : Emb k f) (n : Nat) (hk : k ≤ n) : ∀ xs : List α, plains n (xs.map f) = true
  | [] => by rw [List.map_nil, plains]
  | x :: xs => by rw [List.map_cons, plains, h.pl n x hk, h.pls n hk xs]; rfl
theorem Emb.eqs (h : Emb k f) : ∀ xs ys : List α, eqDs (xs.map f) (ys.map f) = decide (xs = ys)
  | [], [] => by simp [eqDs]
  | x :: xs, [] => by simp [eqDs]
  | [], y :: ys => by simp [eqDs]
  | x :: xs, y :: ys => by
    rw [List.map_cons, List.map_cons, eqDs, h.eqs xs ys, h.eq]
    by_cases e : x = y <;> simp [e]
theorem Emb.als (h : Emb k f) : ∀ xs ys : List α, alikeDs (xs.map f) (ys.map f) = true
  | [], _ => by rw [List.map_nil, alikeDs]
  | _ :: _, [] => by simp [alikeDs]
  | x :: xs, y :: ys => by rw [List.map_cons, List.map_cons, alikeDs, h.al, h.als xs ys]; rfl
theorem Emb.tup (h : Emb k f) : Emb (k + 1) fun xs : List α => D.tup (xs.map f) where
  pl := fun n xs hn => by
    cases n with
    | zero => omega
    | succ n => rw [DL.plain]; exact h.pls n (by omega) xs
  eq := fun xs ys => by rw [eqD]; exact h.eqs xs ys
  al := fun xs ys => by rw [alikeD]; exact h.als xs ys
theorem Emb.lst (h : Emb k f) : Emb (k + 1) fun xs : List α => D.lst (xs.map f) where
  pl := fun n xs hn => by
    cases n with
    | zero => omega
    | succ n => rw [DL.plain]; exact h.pls n (by omega) xs
  eq := fun xs ys => by rw [eqD]; exact h.eqs xs ys
  al := fun xs ys => by rw [alikeD]; exact h.als xs ys
theorem Emb.pair (h : Emb k f) (h' : Emb l g) : Emb (max k l + 1) fun p : α × β => D.tup [f p.1, g p.2] where
  pl := fun n p hn => by
    cases n with
    | zero => omega
    | succ n => rw [DL.plain, plains, plains, plains, h.pl n p.1 (by omega), h'.pl n p.2 (by omega)]; rfl
  eq := fun p q => by
    obtain ⟨a, b⟩ := p
    obtain ⟨c, d⟩ := q
    rw [eqD, eqDs, eqDs, eqDs, h.eq, h'.eq]
    by_cases e1 : a = c <;> by_cases e2 : b = d <;> simp [e1, e2]
  al := fun p q => by rw [alikeD, alikeDs, alikeDs, alikeDs, h.al, h'.al]; rfl
theorem Emb.comp (h : Emb k f) {γ : Type} [DecidableEq γ] (e : γ → α) (he : ∀ x y, e x = e y → x = y) : Emb k fun x => f (e x) where
  pl := fun n x hn => h.pl n _ hn
  eq := fun x y => by
    rw [h.eq]
    by_cases z : x = y
    · simp [z]
    · have : ¬ e x = e y := fun q => z (he _ _ q)
      simp [z, this]
  al := fun x y => h.al _ _
theorem e_int : Emb 0 D.int where
  pl := fun n x _ => by cases n <;> rfl
  eq := fun x y => by rw [eqD]; by_cases e : x = y <;> simp [e]
  al := fun x y => by rw [alikeD]
theorem e_bl : Emb 0 D.bl where
  pl := fun n x _ => by cases n <;> rfl
  eq := fun x y => by rw [eqD]; by_cases e : x = y <;> simp [e]
  al := fun x y => by rw [alikeD]
theorem e_nD : Emb 0 nD := e_int.comp (fun a : Nat => (a : Int)) fun _ _ z => Int.ofNat.inj z
theorem e_iD : Emb 1 iD := e_int.tup
theorem e_oD : Emb 1 oD := e_nD.tup
theorem e_lD : Emb 2 lD := e_oD.pair e_int
theorem e_vD : Emb 3 vD := e_lD.tup
/-! ### the order of data -/
def lef (f : α → D) (x y : α) : Bool := leD (f x) (f y)
theorem leD_total : PySem.W.TotalLe leD := PySem.W.sortLe_total _ false _
theorem le_lef (f : α → D) : Le (lef f) := ⟨fun a b => by rw [Bool.or_eq_true]; exact leD_total.total _ _, fun a b c => leD_total.trans _ _ _⟩
theorem leD_lt (x y : D) : leD x y = !PyProof.Rows.lexLt PyProof.Rows.itemOrd (PySem.W.keyToks (toPy y)) (PySem.W.keyToks (toPy x)) := rfl
theorem Emb.toks (h : Emb k f) {x y : α} (e : PySem.W.keyToks (toPy (f x)) = PySem.W.keyToks (toPy (f y))) : x = y := by
  have ha := alikeD_py _ _ (h.al x y)
  by_cases z : x = y
  · exact z
  · exfalso
    have e1 : PySem.PyData.eqv (toPy (f x)) (toPy (f y)) = false := by
      rw [← eqD_py, h.eq]; simp [z]
    have h2 := (PySem.W.toks_eqv _ _ ha).2 e1
    have h3 := h2 [] [.inl 0]
    rw [e, PySem.W.lex_pre, PyProof.Rows.lex_irrefl] at h3
    exact absurd h3 (by decide)
theorem Emb.anti (h : Emb k f) : Anti (lef f) := fun x y h1 h2 => by
  unfold lef at h1 h2
  rw [leD_lt, Bool.not_eq_true'] at h1 h2
  exact h.toks (PyProof.Rows.lex_total _ _ h2 h1)
theorem Emb.fst (h : Emb k f) (g : β → D) (p q : α × β) (hp : leD (.tup [f p.1, g p.2]) (.tup [f q.1, g q.2]) = true) : lef f p.1 q.1 = true := by
  unfold lef
  have ha := alikeD_py _ _ (h.al q.1 p.1)
  by_cases z : q.1 = p.1
  · rw [z]
    rw [leD_lt, PyProof.Rows.lex_irrefl]; rfl
  · have e1 : PySem.PyData.eqv (toPy (f q.1)) (toPy (f p.1)) = false := by
      rw [← eqD_py, h.eq]; simp [z]
    rw [leD_lt] at hp ⊢
    have e2 : ∀ p : α × β, PySem.W.keyToks (toPy (.tup [f p.1, g p.2])) = .inl 1 :: (PySem.W.keyToks (toPy (f p.1)) ++ PySem.W.keyToksAll [toPy (g p.2)]) := fun p => by
      rw [toPy, toPys, toPys, toPys, PySem.W.keyToks, PySem.W.toks_all_cons]
    rw [e2, e2, PyProof.Rows.lex_self, (PySem.W.toks_eqv _ _ ha).2 e1] at hp
    exact hp
theorem leD_int (x y : Int) : leD (.int x) (.int y) = decide (x ≤ y) := by
  rw [leD_lt]
  show (!(decide (y < x) || (!decide (x < y) && false))) = _
  rw [Bool.and_false, Bool.or_false]
  by_cases q : x ≤ y
  · have : ¬ y < x := by omega
    simp [q, this]
  · have : y < x := by omega
    simp [q, this]
theorem sort_map (f : α → D) (xs : List α) : sortD (xs.map f) = (xs.mergeSort (lef f)).map f := (List.map_mergeSort (r := lef f) (s := leD) (f := f) fun _ _ _ _ => rfl).symm
theorem Emb.sortable (h : Emb k f) (hk : k ≤ 50) (xs : List α) (ht : (∀ x ∈ xs, nonNil (f x) = true) ∨ ∀ x ∈ xs, notTup (f x) = true) : DL.sortable (xs.map f) = true := by
  unfold DL.sortable
  rw [h.pls 50 hk, Bool.true_and, Bool.and_eq_true]
  refine ⟨?_, ?_⟩
  · rw [List.all_eq_true]
    intro d hd
    obtain ⟨x, _, rfl⟩ := List.mem_map.mp hd
    rw [List.all_eq_true]
    intro d hd
    obtain ⟨y, _, rfl⟩ := List.mem_map.mp hd
    exact h.al x y
  · rw [Bool.or_eq_true]
    rcases ht with ht | ht
    · left
      rw [List.all_eq_true]
      intro d hd
      obtain ⟨x, hx, rfl⟩ := List.mem_map.mp hd
      exact ht x hx
    · right
      rw [List.all_eq_true]
      intro d hd
      obtain ⟨x, hx, rfl⟩ := List.mem_map.mp hd
      exact ht x hx
end
/-! ### loops, lists built -/
section
variable {α : Type}
theorem wpMap_fm {f : D → (Option D → Prop) → Prop} (g : α → D) (h : α → Option D) : ∀ (xs : List α) {Q : List D → Prop}, (∀ x ∈ xs, ∀ k : Option D → Prop, k (h x) → f (g x) k) → Q (xs.filterMap h) → wpMap f (xs.map g) Q
  | [], Q, _, q => q
  | x :: xs, Q, H, q => by
    rw [List.map_cons, wpMap]
    refine H x List.mem_cons_self _ ?_
    refine wpMap_fm g h xs (fun y hy => H y (List.mem_cons_of_mem _ hy)) ?_
    rw [List.filterMap_cons] at q
    cases e : h x with
    | none => rw [e] at q; exact q
    | some y => rw [e] at q; exact q
theorem wpMap_all {f : D → (Option D → Prop) → Prop} (g : α → D) (h : α → D) (xs : List α) {Q : List D → Prop} (H : ∀ x ∈ xs, ∀ k : Option D → Prop, k (some (h x)) → f (g x) k) (q : Q (xs.map h)) : wpMap f (xs.map g) Q :=
  wpMap_fm g (fun x => some (h x)) xs H (by rw [List.filterMap_eq_map']; exact q)
theorem fm_if (p : α → Bool) (h : α → D) : ∀ xs : List α, xs.filterMap (fun x => if p x = true then some (h x) else none) = (xs.filter p).map h
  | [] => rfl
  | x :: xs => by
    rw [List.filterMap_cons, List.filter_cons]
    cases e : p x <;> simp [fm_if p h xs]
theorem wpMap_if {f : D → (Option D → Prop) → Prop} (g : α → D) (p : α → Bool) (h : α → D) (xs : List α) {Q : List D → Prop} (H : ∀ x ∈ xs, ∀ k : Option D → Prop, (p x = true → k (some (h x))) → (p x = false → k none) → f (g x) k) (q : Q ((xs.filter p).map h)) : wpMap f (xs.map g) Q := by
  refine wpMap_fm g (fun x => if p x = true then some (h x) else none) xs (fun x hx k hk => H x hx k (fun e => ?_) (fun e => ?_)) (by rw [fm_if]; exact q)
  · rw [if_pos e] at hk; exact hk
  · rw [if_neg (by simp [e])] at hk; exact hk
/-- drawn items: each of them keeps P -/
theorem wpMap_any {f : D → (Option D → Prop) → Prop} (g : α → D) (P : D → Prop) : ∀ (xs : List α) {Q : List D → Prop}, (∀ x ∈ xs, ∀ k : Option D → Prop, (∀ d, P d → k (some d)) → f (g x) k) → (∀ ds : List D, ds.length = xs.length → (∀ d ∈ ds, P d) → Q ds) → wpMap f (xs.map g) Q
  | [], Q, _, q => q [] rfl (by simp)
  | x :: xs, Q, H, q => by
    rw [List.map_cons, wpMap]
    refine H x List.mem_cons_self _ fun d hd => ?_
    refine wpMap_any g P xs (fun y hy => H y (List.mem_cons_of_mem _ hy)) fun ds h1 h2 => ?_
    exact q (d :: ds) (by simp [h1]) fun e he => by
      rcases List.mem_cons.mp he with z | z
      · rw [z]; exact hd
      · exact h2 e z
/-- a loop that neither ends early nor returns -/
theorem wpLoop_inv {f : D → DEnv → Kn → Prop} (g : α → D) : ∀ (xs : List α) {ρ : DEnv} {K : Kn} (I : Nat → DEnv → Prop), I 0 ρ →
    (∀ i x ρ (k : DEnv → Prop), xs[i]? = some x → I i ρ → (∀ ρ', I (i + 1) ρ' → k ρ') → f (g x) ρ ⟨k, K.rt, K.nx, k⟩) → (∀ ρ, I xs.length ρ → K.nx ρ) → wpLoop f (xs.map g) ρ K
  | [], ρ, K, I, h0, _, hd => hd ρ h0
  | x :: xs, ρ, K, I, h0, hs, hd => by
    rw [List.map_cons, wpLoop]
    refine hs 0 x ρ _ rfl h0 fun ρ' h1 => ?_
    exact wpLoop_inv g xs (fun i => I (i + 1)) h1 (fun i y ρ k e h hk => hs (i + 1) y ρ k (by simpa using e) h hk) (fun ρ h => hd ρ h)
theorem wpLoop_aux {f : D → DEnv → Kn → Prop} (g : α → D) (I : List α → DEnv → Prop) (all : List α) : ∀ (xs pre : List α) {ρ : DEnv} {K : Kn}, all = pre ++ xs → I pre ρ →
    (∀ pre x post ρ (k : DEnv → Prop), all = pre ++ x :: post → x ∈ all → I pre ρ → (∀ ρ', I (pre ++ [x]) ρ' → k ρ') → f (g x) ρ ⟨k, K.rt, K.nx, k⟩) → (∀ ρ, I all ρ → K.nx ρ) → wpLoop f (xs.map g) ρ K
  | [], pre, ρ, K, e, h0, _, hd => hd ρ (by rw [e, List.append_nil]; exact h0)
  | x :: xs, pre, ρ, K, e, h0, hs, hd => by
    rw [List.map_cons, wpLoop]
    refine hs pre x xs ρ _ e (by rw [e]; simp) h0 fun ρ' h1 => ?_
    exact wpLoop_aux g I all xs (pre ++ [x]) (by rw [e]; simp) h1 hs hd
/-- the same, by what is done and what is left -/
theorem wpLoop_pre {f : D → DEnv → Kn → Prop} (g : α → D) (I : List α → DEnv → Prop) (xs : List α) {ρ : DEnv} {K : Kn} (h0 : I [] ρ)
    (hs : ∀ pre x post ρ (k : DEnv → Prop), xs = pre ++ x :: post → x ∈ xs → I pre ρ → (∀ ρ', I (pre ++ [x]) ρ' → k ρ') → f (g x) ρ ⟨k, K.rt, K.nx, k⟩) (hd : ∀ ρ, I xs ρ → K.nx ρ) : wpLoop f (xs.map g) ρ K :=
  wpLoop_aux g I xs xs [] rfl h0 hs hd
end
end PL
/-! PB: steps of the small language's reading, as equations. -/
namespace PL
open DL Vt
/-! ### one step -/
theorem wpE_v (Γ : Gam) (i : Nat) (ρ : DEnv) (Q : D → Prop) : wpE Γ (.v i) ρ Q = (Opt (ρ.getD i none) Q) := by first | (rw [wpE]; done) | (rw [wpE]; rfl)
theorem wpE_non (Γ : Gam)  (ρ : DEnv) (Q : D → Prop) : wpE Γ (.non) ρ Q = (Q .non) := by first | (rw [wpE]; done) | (rw [wpE]; rfl)
theorem wpE_bl (Γ : Gam) (b : Bool) (ρ : DEnv) (Q : D → Prop) : wpE Γ (.bl b) ρ Q = (Q (.bl b)) := by first | (rw [wpE]; done) | (rw [wpE]; rfl)
theorem wpE_int (Γ : Gam) (z : Int) (ρ : DEnv) (Q : D → Prop) : wpE Γ (.int z) ρ Q = (Q (.int z)) := by first | (rw [wpE]; done) | (rw [wpE]; rfl)
theorem wpE_str (Γ : Gam) (s : PySem.Str) (ρ : DEnv) (Q : D → Prop) : wpE Γ (.str s) ρ Q = (Q (.str s)) := by first | (rw [wpE]; done) | (rw [wpE]; rfl)
theorem wpE_tup (Γ : Gam) (es : Xs) (ρ : DEnv) (Q : D → Prop) : wpE Γ (.tup es) ρ Q = (wpXs Γ es ρ fun ds => ds.length ≤ PySem.sizeLine ∧ Q (.tup ds)) := by first | (rw [wpE]; done) | (rw [wpE]; rfl)
theorem wpE_lst (Γ : Gam) (es : Xs) (ρ : DEnv) (Q : D → Prop) : wpE Γ (.lst es) ρ Q = (wpXs Γ es ρ fun ds => ds.length ≤ PySem.sizeLine ∧ Q (.lst ds)) := by first | (rw [wpE]; done) | (rw [wpE]; rfl)
theorem wpE_dnil (Γ : Gam) (t : Bool) (ρ : DEnv) (Q : D → Prop) : wpE Γ (.dnil t) ρ Q = (Q (if t then .dT [] else .dK [])) := by first | (rw [wpE]; done) | (rw [wpE]; rfl)
theorem wpE_bin (Γ : Gam) (o : Bop) (a : Ex) (b : Ex) (ρ : DEnv) (Q : D → Prop) : wpE Γ (.bin o a b) ρ Q = (wpE Γ a ρ fun x => wpE Γ b ρ fun y => Opt (bopD o x y) Q) := by first | (rw [wpE]; done) | (rw [wpE]; rfl)
theorem wpE_neg (Γ : Gam) (a : Ex) (ρ : DEnv) (Q : D → Prop) : wpE Γ (.neg a) ρ Q = (wpE Γ a ρ (dI fun i => Q (.int (-i)))) := by first | (rw [wpE]; done) | (rw [wpE]; rfl)
theorem wpE_nt (Γ : Gam) (a : Ex) (ρ : DEnv) (Q : D → Prop) : wpE Γ (.nt a) ρ Q = (wpE Γ a ρ (dB fun b => Q (.bl (!b)))) := by first | (rw [wpE]; done) | (rw [wpE]; rfl)
theorem wpE_and (Γ : Gam) (es : Xs) (ρ : DEnv) (Q : D → Prop) : wpE Γ (.and es) ρ Q = (wpAnd Γ es ρ fun b => Q (.bl b)) := by first | (rw [wpE]; done) | (rw [wpE]; rfl)
theorem wpE_or (Γ : Gam) (es : Xs) (ρ : DEnv) (Q : D → Prop) : wpE Γ (.or es) ρ Q = (wpOr Γ es ρ fun b => Q (.bl b)) := by first | (rw [wpE]; done) | (rw [wpE]; rfl)
theorem wpE_ite (Γ : Gam) (c : Ex) (a : Ex) (b : Ex) (ρ : DEnv) (Q : D → Prop) : wpE Γ (.ite c a b) ρ Q = (wpE Γ c ρ (dB fun t => if t = true then wpE Γ a ρ Q else wpE Γ b ρ Q)) := by first | (rw [wpE]; done) | (rw [wpE]; rfl)
theorem wpE_cmp (Γ : Gam) (o : Cop) (a : Ex) (b : Ex) (ρ : DEnv) (Q : D → Prop) : wpE Γ (.cmp o a b) ρ Q = (wpE Γ a ρ fun x => wpE Γ b ρ fun y => Opt ((copD o x y).map .bl) Q) := by first | (rw [wpE]; done) | (rw [wpE]; rfl)
theorem wpE_cmp2 (Γ : Gam) (o : Cop) (o' : Cop) (a : Ex) (b : Ex) (c : Ex) (ρ : DEnv) (Q : D → Prop) : wpE Γ (.cmp2 o o' a b c) ρ Q = (wpE Γ a ρ fun x => wpE Γ b ρ fun y => Opt ((copD o x y).map .bl) (dB fun t => if t = true then wpE Γ c ρ fun z => Opt ((copD o' y z).map .bl) Q else Q (.bl false))) := by first | (rw [wpE]; done) | (rw [wpE]; rfl)
theorem wpE_ix (Γ : Gam) (a : Ex) (i : Ex) (ρ : DEnv) (Q : D → Prop) : wpE Γ (.ix a i) ρ Q = (wpE Γ a ρ fun x => wpE Γ i ρ fun y => Opt (ixD x y) Q) := by first | (rw [wpE]; done) | (rw [wpE]; rfl)
theorem wpE_sl (Γ : Gam) (a : Ex) (lo : Eo) (hi : Eo) (ρ : DEnv) (Q : D → Prop) : wpE Γ (.sl a lo hi) ρ Q = (wpE Γ a ρ fun x => wpEo Γ lo ρ fun l => wpEo Γ hi ρ fun h => Opt (slD x l h) Q) := by first | (rw [wpE]; done) | (rw [wpE]; rfl)
theorem wpE_rev (Γ : Gam) (a : Ex) (ρ : DEnv) (Q : D → Prop) : wpE Γ (.rev a) ρ Q = (wpE Γ a ρ fun x => Opt (revD x) Q) := by first | (rw [wpE]; done) | (rw [wpE]; rfl)
theorem wpE_call (Γ : Gam) (f : PySem.Str) (es : Xs) (ρ : DEnv) (Q : D → Prop) : wpE Γ (.call f es) ρ Q = (match Γ f with | some (_, g) => wpXs Γ es ρ fun ds => g ds Q | none => False) := by first | (rw [wpE]; done) | (rw [wpE]; rfl)
theorem wpE_blt (Γ : Gam) (f : Bf) (es : Xs) (ρ : DEnv) (Q : D → Prop) : wpE Γ (.blt f es) ρ Q = (wpXs Γ es ρ fun ds => Opt (bltD f ds) Q) := by first | (rw [wpE]; done) | (rw [wpE]; rfl)
theorem wpE_seq (Γ : Gam) (f : Sf) (it : It) (ρ : DEnv) (Q : D → Prop) : wpE Γ (.seq f it) ρ Q = (wpIt Γ it ρ fun ds => Opt (sfD f (ds.map unPr)) Q) := by first | (rw [wpE]; done) | (rw [wpE]; rfl)
theorem wpE_mth (Γ : Gam) (m : Mt) (o : Ex) (es : Xs) (ρ : DEnv) (Q : D → Prop) : wpE Γ (.mth m o es) ρ Q = (wpE Γ o ρ fun x => mtOk m x = true ∧ wpXs Γ es ρ fun ds => Opt (mthD m x ds) Q) := by first | (rw [wpE]; done) | (rw [wpE]; rfl)
theorem wpE_isin (Γ : Gam) (a : Ex) (c : Cl) (ρ : DEnv) (Q : D → Prop) : wpE Γ (.isin a c) ρ Q = (wpE Γ a ρ fun x => Opt ((isD c x).map .bl) Q) := by first | (rw [wpE]; done) | (rw [wpE]; rfl)
theorem wpE_sg (Γ : Gam) (i : Nat) (k : Sk) (ρ : DEnv) (Q : D → Prop) : wpE Γ (.sg i k) ρ Q = (ρ.getD i none = some .src ∧ ∀ z, Q (.int z)) := by first | (rw [wpE]; done) | (rw [wpE]; rfl)
theorem wpE_comp (Γ : Gam) (p : Pat) (it : It) (ifs : Xs) (e : Ex) (own : List Nat) (ρ : DEnv) (Q : D → Prop) : wpE Γ (.comp p it ifs e own) ρ Q = (wpIt Γ it ρ fun ds => wpMap (fun d k => bindPat p d (wipeD ρ own) fun ρ' => wpAnd Γ ifs ρ' fun b => if b = true then wpE Γ e ρ' fun y => k (some y) else k none) ds fun ys => Q (.lst ys)) := by first | (rw [wpE]; done) | (rw [wpE]; rfl)
theorem wpEo_no (Γ : Gam)  (ρ : DEnv) (Q : Option Int → Prop) : wpEo Γ (.no) ρ Q = (Q none) := by first | (rw [wpEo]; done) | (rw [wpEo]; rfl)
theorem wpEo_yes (Γ : Gam) (e : Ex) (ρ : DEnv) (Q : Option Int → Prop) : wpEo Γ (.yes e) ρ Q = (wpE Γ e ρ (dI fun i => Q (some i))) := by first | (rw [wpEo]; done) | (rw [wpEo]; rfl)
theorem wpXs_nil (Γ : Gam)  (ρ : DEnv) (Q : List D → Prop) : wpXs Γ (.nil) ρ Q = (Q []) := by first | (rw [wpXs]; done) | (rw [wpXs]; rfl)
theorem wpXs_consF (Γ : Gam) (e : Ex) (es : Xs) (ρ : DEnv) (Q : List D → Prop) : wpXs Γ (.cons false e es) ρ Q = (wpE Γ e ρ fun d => wpXs Γ es ρ fun ds => Q (d :: ds)) := by first | (rw [wpXs]; done) | (rw [wpXs]; rfl)
theorem wpXs_consT (Γ : Gam) (e : Ex) (es : Xs) (ρ : DEnv) (Q : List D → Prop) : wpXs Γ (.cons true e es) ρ Q = (wpE Γ e ρ fun d => match seqOf d with | some xs => wpXs Γ es ρ fun ds => Q (xs ++ ds) | none => False) := by first | (rw [wpXs]; done) | (rw [wpXs]; rfl)
theorem wpAnd_nil (Γ : Gam)  (ρ : DEnv) (Q : Bool → Prop) : wpAnd Γ (.nil) ρ Q = (Q true) := by first | (rw [wpAnd]; done) | (rw [wpAnd]; rfl)
theorem wpAnd_cons (Γ : Gam) (s : Bool) (e : Ex) (es : Xs) (ρ : DEnv) (Q : Bool → Prop) : wpAnd Γ (.cons s e es) ρ Q = (wpE Γ e ρ (dB fun b => if b = true then wpAnd Γ es ρ Q else Q false)) := by first | (rw [wpAnd]; done) | (rw [wpAnd]; rfl)
theorem wpOr_nil (Γ : Gam)  (ρ : DEnv) (Q : Bool → Prop) : wpOr Γ (.nil) ρ Q = (Q false) := by first | (rw [wpOr]; done) | (rw [wpOr]; rfl)
theorem wpOr_cons (Γ : Gam) (s : Bool) (e : Ex) (es : Xs) (ρ : DEnv) (Q : Bool → Prop) : wpOr Γ (.cons s e es) ρ Q = (wpE Γ e ρ (dB fun b => if b = true then Q true else wpOr Γ es ρ Q)) := by first | (rw [wpOr]; done) | (rw [wpOr]; rfl)
theorem wpIt_seq (Γ : Gam) (e : Ex) (ρ : DEnv) (Q : List D → Prop) : wpIt Γ (.seq e) ρ Q = (wpE Γ e ρ fun d => match seqOf d with | some xs => Q xs | none => False) := by first | (rw [wpIt]; done) | (rw [wpIt]; rfl)
theorem wpIt_rng1 (Γ : Gam) (a : Ex) (ρ : DEnv) (Q : List D → Prop) : wpIt Γ (.rng1 a) ρ Q = (wpE Γ a ρ (dI fun n => smallI n ∧ Q (rangeD 0 1 n.toNat))) := by first | (rw [wpIt]; done) | (rw [wpIt]; rfl)
theorem wpIt_rng2 (Γ : Gam) (a : Ex) (b : Ex) (ρ : DEnv) (Q : List D → Prop) : wpIt Γ (.rng2 a b) ρ Q = (wpE Γ a ρ (dI fun m => wpE Γ b ρ (dI fun n => smallI m ∧ smallI n ∧ Q (rangeD m 1 (n - m).toNat)))) := by first | (rw [wpIt]; done) | (rw [wpIt]; rfl)
theorem wpIt_rng3 (Γ : Gam) (a : Ex) (b : Ex) (c : Ex) (ρ : DEnv) (Q : List D → Prop) : wpIt Γ (.rng3 a b c) ρ Q = (wpE Γ a ρ (dI fun m => wpE Γ b ρ (dI fun n => wpE Γ c ρ (dI fun s => smallI m ∧ smallI n ∧ s = -1 ∧ Q (rangeD m s (m - n).toNat))))) := by first | (rw [wpIt]; done) | (rw [wpIt]; rfl)
theorem wpIt_enum (Γ : Gam) (e : Ex) (ρ : DEnv) (Q : List D → Prop) : wpIt Γ (.enum e) ρ Q = (wpE Γ e ρ fun d => match seqOf d with | some xs => Q (enumD xs) | none => False) := by first | (rw [wpIt]; done) | (rw [wpIt]; rfl)
theorem wpIt_zip (Γ : Gam) (a : Ex) (b : Ex) (ρ : DEnv) (Q : List D → Prop) : wpIt Γ (.zip a b) ρ Q = (wpE Γ a ρ fun d => wpE Γ b ρ fun d' => match zipD d d' with | some ds => Q ds | none => False) := by first | (rw [wpIt]; done) | (rw [wpIt]; rfl)
theorem wpIt_items (Γ : Gam) (e : Ex) (ρ : DEnv) (Q : List D → Prop) : wpIt Γ (.items e) ρ Q = (wpE Γ e ρ fun d => match d with | .dK kvs => Q (kvs.map fun kv => .pr (keyD kv.1) kv.2) | .dT kvs => Q (kvs.map fun kv => .pr (ofNK kv.1) kv.2) | _ => False) := by first | (rw [wpIt]; done) | (rw [wpIt]; rfl)
theorem wpIt_keys (Γ : Gam) (e : Ex) (ρ : DEnv) (Q : List D → Prop) : wpIt Γ (.keys e) ρ Q = (wpE Γ e ρ fun d => match d with | .dK kvs => Q (keysK kvs) | .dT kvs => Q (keysT kvs) | _ => False) := by first | (rw [wpIt]; done) | (rw [wpIt]; rfl)
theorem wpS_asg (Γ : Gam) (i : Nat) (t : Nat) (e : Ex) (ρ : DEnv) (K : Kn) : wpS Γ (.asg i t e) ρ K = (wpE Γ e ρ fun d => K.nx (ρ.set i (some d))) := by first | (rw [wpS]; done) | (rw [wpS]; rfl)
theorem wpS_unp (Γ : Gam) (is : List Nat) (e : Ex) (ρ : DEnv) (K : Kn) : wpS Γ (.unp is e) ρ K = (wpE Γ e ρ fun d => bindPat (.pn is) d ρ K.nx) := by first | (rw [wpS]; done) | (rw [wpS]; rfl)
theorem wpS_par (Γ : Gam) (i : Nat) (t : Nat) (j : Nat) (u : Nat) (a : Ex) (b : Ex) (ρ : DEnv) (K : Kn) : wpS Γ (.par i t j u a b) ρ K = (wpE Γ a ρ fun x => wpE Γ b ρ fun y => K.nx ((ρ.set i (some x)).set j (some y))) := by first | (rw [wpS]; done) | (rw [wpS]; rfl)
theorem wpS_par3 (Γ : Gam) (i t j u k v : Nat) (a b c : Ex) (ρ : DEnv) (K : Kn) : wpS Γ (.par3 i t j u k v a b c) ρ K = (wpE Γ a ρ fun x => wpE Γ b ρ fun y => wpE Γ c ρ fun z => K.nx (((ρ.set i (some x)).set j (some y)).set k (some z))) := by first | (rw [wpS]; done) | (rw [wpS]; rfl)
theorem wpS_setix (Γ : Gam) (i : Nat) (k : Ex) (e : Ex) (ρ : DEnv) (K : Kn) : wpS Γ (.setix i k e) ρ K = (Opt (ρ.getD i none) fun d => wpE Γ e ρ fun v => wpE Γ k ρ fun x => Opt (setD d x v) fun d' => K.nx (ρ.set i (some d'))) := by first | (rw [wpS]; done) | (rw [wpS]; rfl)
theorem wpS_setix2 (Γ : Gam) (i : Nat) (k : Ex) (k' : Ex) (e : Ex) (ρ : DEnv) (K : Kn) : wpS Γ (.setix2 i k k' e) ρ K = (Opt (ρ.getD i none) fun d => wpE Γ e ρ fun v => wpE Γ k ρ fun x => Opt (rowD d x) fun r => wpE Γ k' ρ fun x' => Opt (setD2 d x r x' v) fun d' => K.nx (ρ.set i (some d'))) := by first | (rw [wpS]; done) | (rw [wpS]; rfl)
theorem wpS_app (Γ : Gam) (i : Nat) (e : Ex) (ρ : DEnv) (K : Kn) : wpS Γ (.app i e) ρ K = (Opt (ρ.getD i none) fun d => isLst d = true ∧ wpE Γ e ρ fun v => Opt (appD d v) fun d' => K.nx (ρ.set i (some d'))) := by first | (rw [wpS]; done) | (rw [wpS]; rfl)
theorem wpS_ext (Γ : Gam) (i : Nat) (e : Ex) (ρ : DEnv) (K : Kn) : wpS Γ (.ext i e) ρ K = (Opt (ρ.getD i none) fun d => wpE Γ e ρ fun v => Opt (extD d v) fun d' => K.nx (ρ.set i (some d'))) := by first | (rw [wpS]; done) | (rw [wpS]; rfl)
theorem wpS_ret (Γ : Gam) (e : Ex) (ρ : DEnv) (K : Kn) : wpS Γ (.ret e) ρ K = (wpE Γ e ρ K.rt) := by first | (rw [wpS]; done) | (rw [wpS]; rfl)
theorem wpS_iff (Γ : Gam) (c : Ex) (a : Ss) (b : Ss) (ρ : DEnv) (K : Kn) : wpS Γ (.iff c a b) ρ K = (wpE Γ c ρ (dB fun t => if t = true then wpSs Γ a ρ K else wpSs Γ b ρ K)) := by first | (rw [wpS]; done) | (rw [wpS]; rfl)
theorem wpS_for_ (Γ : Gam) (p : Pat) (it : It) (b : Ss) (ρ : DEnv) (K : Kn) : wpS Γ (.for_ p it b) ρ K = (wpIt Γ it ρ fun ds => wpLoop (fun d ρ K => bindPat p d ρ fun ρ' => wpSs Γ b ρ' K) ds ρ K) := by first | (rw [wpS]; done) | (rw [wpS]; rfl)
theorem wpS_whl (Γ : Gam) (c : Ex) (b : Ss) (ρ : DEnv) (K : Kn) : wpS Γ (.whl c b) ρ K = (wpWhile (fun ρ Q => wpE Γ c ρ (dB Q)) (fun ρ K => wpSs Γ b ρ K) ρ K) := by first | (rw [wpS]; done) | (rw [wpS]; rfl)
theorem wpS_brk (Γ : Gam)  (ρ : DEnv) (K : Kn) : wpS Γ (.brk) ρ K = (K.bk ρ) := by first | (rw [wpS]; done) | (rw [wpS]; rfl)
theorem wpS_cont (Γ : Gam)  (ρ : DEnv) (K : Kn) : wpS Γ (.cont) ρ K = (K.ct ρ) := by first | (rw [wpS]; done) | (rw [wpS]; rfl)
theorem wpS_exp (Γ : Gam) (e : Ex) (ρ : DEnv) (K : Kn) : wpS Γ (.exp e) ρ K = (wpE Γ e ρ fun _ => K.nx ρ) := by first | (rw [wpS]; done) | (rw [wpS]; rfl)
theorem wpS_sset (Γ : Gam) (i : Nat) (k : Sk) (e : Ex) (ρ : DEnv) (K : Kn) : wpS Γ (.sset i k e) ρ K = (ρ.getD i none = some .src ∧ wpE Γ e ρ (dI fun z => skOk k z ∧ K.nx ρ)) := by first | (rw [wpS]; done) | (rw [wpS]; rfl)
theorem wpS_drain (Γ : Gam) (i : Nat) (ρ : DEnv) (K : Kn) : wpS Γ (.drain i) ρ K = (ρ.getD i none = some .src ∧ K.nx ρ) := by first | (rw [wpS]; done) | (rw [wpS]; rfl)
theorem wpS_appPop (Γ : Gam) (i : Nat) (j : Nat) (e : Ex) (ρ : DEnv) (K : Kn) : wpS Γ (.appPop i j e) ρ K = (Opt (ρ.getD i none) fun f => isLst f = true ∧ Opt (ρ.getD j none) fun d => isLst d = true ∧ wpE Γ e ρ fun k => Opt2 (popD d k) fun y r => Opt (appD f y) fun f' => K.nx ((ρ.set j (some r)).set i (some f'))) := by first | (rw [wpS]; done) | (rw [wpS]; rfl)
theorem wpSs_nil (Γ : Gam)  (ρ : DEnv) (K : Kn) : wpSs Γ (.nil) ρ K = (K.nx ρ) := by first | (rw [wpSs]; done) | (rw [wpSs]; rfl)
theorem wpSs_cons (Γ : Gam) (s : Sm) (r : Ss) (ρ : DEnv) (K : Kn) : wpSs Γ (.cons s r) ρ K = (wpS Γ s ρ ⟨fun ρ' => wpSs Γ r ρ' K, K.rt, K.bk, K.ct⟩) := by first | (rw [wpSs]; done) | (rw [wpSs]; rfl)
theorem wpSs_frz (Γ : Gam) (i : Nat) (r : Ss) (ρ : DEnv) (K : Kn) : wpSs Γ (.frz i r) ρ K = (wpSs Γ r ρ K) := by first | (rw [wpSs]; done) | (rw [wpSs]; rfl)
theorem wpSs_drn (Γ : Gam) (i : Nat) (j : Nat) (r : Ss) (ρ : DEnv) (K : Kn) : wpSs Γ (.drn i j r) ρ K = (ρ.getD i none = some .src ∧ j < ρ.length ∧ wpSs Γ r (ρ.set j none) K) := by first | (rw [wpSs]; done) | (rw [wpSs]; rfl)
theorem Opt_some' (d : D) (Q : D → Prop) : Opt (some d) Q = Q d := rfl
/-- one statement, the rest put aside -/
inductive Tl : Ss → Ss → Prop
  | mk (r : Ss) : Tl r r
theorem seq_step {Γ : Gam} {s : Sm} {r : Ss} {ρ : DEnv} {K : Kn} (h : ∀ r', Tl r' r → wpS Γ s ρ ⟨fun ρ' => wpSs Γ r' ρ' K, K.rt, K.bk, K.ct⟩) : wpSs Γ (.cons s r) ρ K := by
  rw [wpSs]
  exact h r (.mk r)
/-- two ways that go on alike -/
theorem if_first {c : Prop} [Decidable c] {A R : Prop} (hA : c → R → A) (r : R) : if c then A else R := by
  split
  · rename_i h; exact hA h r
  · exact r
theorem if_second {c : Prop} [Decidable c] {A R : Prop} (hA : ¬ c → R → A) (r : R) : if c then R else A := by
  split
  · exact r
  · rename_i h; exact hA h r
/-! ### patterns -/
theorem bp1 (i : Nat) (d : D) (ρ : DEnv) (k : DEnv → Prop) : bindPat (.p i) d ρ k = k (ρ.set i (some d)) := rfl
theorem bp2t (i j : Nat) (x y : D) (ρ : DEnv) (k : DEnv → Prop) : bindPat (.pn [i, j]) (.tup [x, y]) ρ k = k ((ρ.set i (some x)).set j (some y)) := by
  simp [bindPat, seqU]
theorem bp2p (i j : Nat) (x y : D) (ρ : DEnv) (k : DEnv → Prop) : bindPat (.pn [i, j]) (.pr x y) ρ k = k ((ρ.set i (some x)).set j (some y)) := by
  simp [bindPat, seqU]
theorem bp2l (i j : Nat) (x y : D) (ρ : DEnv) (k : DEnv → Prop) : bindPat (.pn [i, j]) (.lst [x, y]) ρ k = k ((ρ.set i (some x)).set j (some y)) := by
  simp [bindPat, seqU]
theorem dB_bl (Q : Bool → Prop) (b : Bool) : dB Q (.bl b) = Q b := rfl
theorem dI_int (Q : Int → Prop) (b : Int) : dI Q (.int b) = Q b := rfl
theorem if_tt {α : Sort _} (a b : α) : (if true = true then a else b) = a := rfl
theorem if_ff {α : Sort _} (a b : α) : (if false = true then a else b) = b := rfl
theorem seqOf_t (xs : List D) : seqOf (.tup xs) = some xs := rfl
theorem seqOf_l (xs : List D) : seqOf (.lst xs) = some xs := rfl
/-! ### operators -/
theorem bop_add (a b : Int) : bopD .add (.int a) (.int b) = some (.int (a + b)) := rfl
theorem bop_sub (a b : Int) : bopD .sub (.int a) (.int b) = some (.int (a - b)) := rfl
theorem bop_mul {a b : Int} (h : a.natAbs < 18446744073709551616 ∨ b.natAbs < 18446744073709551616) : bopD .mul (.int a) (.int b) = some (.int (a * b)) := by
  show (if _ then _ else _) = _
  rw [if_pos]
  have : (2 : Nat) ^ 64 = 18446744073709551616 := by decide
  rw [this]
  exact h
theorem bop_fdiv {a b : Int} (h : 0 < b) (h' : b < 1073741824) : bopD .fdiv (.int a) (.int b) = some (.int (a / b)) := by
  show (if _ then _ else _) = _
  rw [if_pos ⟨h, h'⟩]
theorem bop_mod {a b : Int} (h : 0 < b) : bopD .mod (.int a) (.int b) = some (.int (a % b)) := by
  show (if _ then _ else _) = _
  rw [if_pos h]
theorem size_line : PySem.sizeLine = 16777216 := by decide
theorem bop_lst {a b : List D} (h : a.length + b.length ≤ 16777216) : bopD .add (.lst a) (.lst b) = some (.lst (a ++ b)) := by
  show (if _ then _ else _) = _
  rw [if_pos (by rw [size_line]; exact h)]
theorem bop_tup {a b : List D} (h : a.length + b.length ≤ 16777216) : bopD .add (.tup a) (.tup b) = some (.tup (a ++ b)) := by
  show (if _ then _ else _) = _
  rw [if_pos (by rw [size_line]; exact h)]
theorem rep_one (d : D) (n : Nat) : (List.replicate n [d]).flatten = List.replicate n d := by
  induction n with
  | zero => rfl
  | succ n ih => rw [List.replicate_succ, List.flatten_cons, ih]; rfl
theorem bop_rep {d : D} {n : Nat} (h : n ≤ 16777216) : bopD .mul (.lst [d]) (.int (n : Int)) = some (.lst (List.replicate n d)) := by
  show (if _ then _ else _) = _
  rw [if_pos, Int.toNat_natCast, rep_one]
  refine ⟨?_, ?_⟩
  · rw [size_line, Int.toNat_natCast]; simpa using h
  · have : (2 : Nat) ^ 62 = 4611686018427387904 := by decide
    rw [this]; omega
theorem bop_rept {d : D} {n : Nat} (h : n ≤ 1000) : bopD .mul (.tup [d]) (.int (n : Int)) = some (.tup (List.replicate n d)) := by
  show (if _ then _ else _) = _
  rw [if_pos, Int.toNat_natCast, rep_one]
  exact ⟨by omega, by omega, by simp⟩
theorem rep_tb (n : Nat) (z : Int) : List.replicate n (D.int z) = (List.range n).map fun _ => D.int z := by
  rw [List.map_const', List.length_range]
/-! ### comparisons -/
theorem cop_lt (a b : Int) : copD .lt (.int a) (.int b) = some (decide (a < b)) := rfl
theorem cop_gt (a b : Int) : copD .gt (.int a) (.int b) = some (decide (b < a)) := rfl
theorem cop_le (a b : Int) : copD .le (.int a) (.int b) = some (decide (a ≤ b)) := rfl
theorem cop_ge (a b : Int) : copD .ge (.int a) (.int b) = some (decide (b ≤ a)) := rfl
theorem omap_bl (b : Bool) : Option.map D.bl (some b) = some (.bl b) := rfl
section
variable {α : Type} [DecidableEq α] {k : Nat} {f : α → D}
theorem Emb.cop_eq (h : Emb k f) (hk : k ≤ 58) (x y : α) : copD .eq (f x) (f y) = some (decide (x = y)) := by
  show (if _ then _ else _) = _
  rw [h.pl 58 _ hk, h.pl 58 _ hk, h.eq]; rfl
theorem Emb.cop_ne (h : Emb k f) (hk : k ≤ 58) (x y : α) : copD .ne (f x) (f y) = some (!decide (x = y)) := by
  show (if _ then _ else _) = _
  rw [h.pl 58 _ hk, h.pl 58 _ hk, h.eq]; rfl
theorem Emb.inD (h : Emb k f) (x : α) (xs : List α) : DL.inD (f x) (xs.map f) = decide (x ∈ xs) := by
  unfold DL.inD
  rw [List.any_map]
  induction xs with
  | nil => simp
  | cons y ys ih =>
    rw [List.any_cons, ih]
    simp only [Function.comp, h.eq]
    by_cases e : y = x
    · simp [e]
    · have : ¬ x = y := fun q => e q.symm
      simp [e, this]
theorem Emb.inn_t (h : Emb k f) (hk : k ≤ 58) (x : α) (xs : List α) : copD .inn (f x) (.tup (xs.map f)) = some (decide (x ∈ xs)) := by
  show (if _ then _ else _) = _
  rw [h.pl 58 _ hk, h.pls 58 hk, h.inD]; rfl
theorem Emb.inn_l (h : Emb k f) (hk : k ≤ 58) (x : α) (xs : List α) : copD .inn (f x) (.lst (xs.map f)) = some (decide (x ∈ xs)) := h.inn_t hk x xs
theorem Emb.notin_t (h : Emb k f) (hk : k ≤ 58) (x : α) (xs : List α) : copD .notin (f x) (.tup (xs.map f)) = some (!decide (x ∈ xs)) := by
  show (if _ then _ else _) = _
  rw [h.pl 58 _ hk, h.pls 58 hk, h.inD]; rfl
theorem Emb.notin_l (h : Emb k f) (hk : k ≤ 58) (x : α) (xs : List α) : copD .notin (f x) (.lst (xs.map f)) = some (!decide (x ∈ xs)) := h.notin_t hk x xs
theorem Emb.find (h : Emb k f) (x : α) (xs : List α) : ((xs.map f).findIdx? fun y => eqD y (f x)) = xs.findIdx? fun y => decide (y = x) := by
  rw [List.findIdx?_map]
  congr 1
  funext y
  exact h.eq y x
theorem Emb.idx (h : Emb k f) (hk : k ≤ 58) {x : α} {xs : List α} (hx : x ∈ xs) : idxD (f x) (xs.map f) = some (.int (xs.idxOf x : Nat)) := by
  unfold idxD
  rw [h.pl 58 _ hk, h.pls 58 hk, h.find]
  have e : (xs.findIdx? fun y => decide (y = x)) = some (xs.idxOf x) := by
    have h1 : xs.idxOf x < xs.length := List.idxOf_lt_length_iff.mpr hx
    rw [show (fun y => decide (y = x)) = (fun y => y == x) from funext fun y => by by_cases q : y = x <;> simp [q]]
    rw [List.findIdx?_eq_some_iff_getElem]
    refine ⟨h1, by rw [List.getElem_idxOf]; simp, fun j hj => ?_⟩
    have := List.not_of_lt_findIdx (p := (· == x)) (xs := xs) hj
    simpa using this
  rw [e]
  rfl
theorem Emb.mth_t (h : Emb k f) (hk : k ≤ 58) {x : α} {xs : List α} (hx : x ∈ xs) : mthD .index (.tup (xs.map f)) [f x] = some (.int (xs.idxOf x : Nat)) := h.idx hk hx
theorem Emb.mth_l (h : Emb k f) (hk : k ≤ 58) {x : α} {xs : List α} (hx : x ∈ xs) : mthD .index (.lst (xs.map f)) [f x] = some (.int (xs.idxOf x : Nat)) := h.idx hk hx
end
theorem Emb.comp_lst {α : Type} [DecidableEq α] {g : α → D} (h : Emb 0 g) (f : Nat → α) (n : Nat) : copD .ne (.lst ((List.range n).map fun a => g (f a))) (.lst ((List.range n).map fun a => g (f a))) = some false := by
  have e : ((List.range n).map fun a => g (f a)) = ((List.range n).map f).map g := by rw [List.map_map]; rfl
  rw [e, h.lst.cop_ne (by decide)]
  simp
theorem eq_int (a b : Int) : copD .eq (.int a) (.int b) = some (decide (a = b)) := e_int.cop_eq (by decide) a b
theorem ne_int (a b : Int) : copD .ne (.int a) (.int b) = some (!decide (a = b)) := e_int.cop_ne (by decide) a b
theorem mtOk_it (xs : List D) : mtOk .index (.tup xs) = true := rfl
theorem mtOk_il (xs : List D) : mtOk .index (.lst xs) = true := rfl
theorem mtOk_g2 (xs : List (PySem.NestedKey × D)) : mtOk .get2 (.dT xs) = true := rfl
/-! ### places -/
theorem range_nD (n : Nat) : rangeD 0 1 n = (List.range n).map nD := by
  unfold rangeD
  refine List.map_congr_left fun k _ => ?_
  show D.int _ = D.int _
  congr 1
  omega
theorem range_nD' (n : Nat) : rangeD 0 1 (Int.toNat (n : Int)) = (List.range n).map nD := by
  rw [Int.toNat_natCast]; exact range_nD n
theorem range_1n (n : Nat) : rangeD 1 1 ((n : Int) - 1).toNat = (List.range (n - 1)).map fun k => nD (k + 1) := by
  unfold rangeD
  rw [show ((n : Int) - 1).toNat = n - 1 by omega]
  refine List.map_congr_left fun k _ => ?_
  show D.int _ = D.int _
  congr 1
  omega
theorem isD_tt (xs : List D) : isD .tuple (.tup xs) = some true := rfl
theorem isD_ii (i : Int) : isD .int (.int i) = some true := rfl
theorem isD_bi (i : Int) : isD .bool (.int i) = some false := rfl
theorem small_nat {n : Nat} (h : n < 1000000) : smallI (n : Int) := by unfold smallI; omega
theorem ixN_nat {n a : Nat} (h : a < n) : L2.ixN n (a : Int) = some a := by
  unfold L2.ixN
  rw [if_pos (by omega), if_pos (by omega)]
  simp
section
variable {α : Type} {g : α → D} {xs : List α} {a : Nat} {x : α}
theorem ixD_l (h : xs[a]? = some x) : ixD (.lst (xs.map g)) (.int (a : Int)) = some (g x) := by
  have ha : a < xs.length := by
    rcases Nat.lt_or_ge a xs.length with q | q
    · exact q
    · rw [List.getElem?_eq_none q] at h; cases h
  show (ixAt (xs.map g).length (a : Int)).bind (fun j => (xs.map g)[j]?) = _
  rw [List.length_map, show ixAt xs.length (a : Int) = some a from ixN_nat ha]
  simp [h]
theorem ixD_t (h : xs[a]? = some x) : ixD (.tup (xs.map g)) (.int (a : Int)) = some (g x) := ixD_l h
theorem ixD_gl (h : a < xs.length) : ixD (.lst (xs.map g)) (.int (a : Int)) = some (g xs[a]) := ixD_l (List.getElem?_eq_getElem h)
theorem ixD_gt (h : a < xs.length) : ixD (.tup (xs.map g)) (.int (a : Int)) = some (g xs[a]) := ixD_l (List.getElem?_eq_getElem h)
/-- the last one -/
theorem ixD_last {xs : List D} {x : D} : ixD (.lst (xs ++ [x])) (.int (-1)) = some x := by
  show (ixAt (xs ++ [x]).length (-1)).bind (fun j => (xs ++ [x])[j]?) = _
  have : ixAt (xs ++ [x]).length (-1) = some xs.length := by
    show L2.ixN _ _ = _
    unfold L2.ixN
    rw [if_neg (by decide), if_pos (by rw [List.length_append]; simp; omega)]
    rw [List.length_append]
    simp
    omega
  rw [this]
  simp
end
section
variable {g : Nat → D} {n a : Nat}
theorem ixD_r (h : a < n) : ixD (.lst ((List.range n).map g)) (.int (a : Int)) = some (g a) := ixD_l (List.getElem?_range h)
theorem ixD_rt (h : a < n) : ixD (.tup ((List.range n).map g)) (.int (a : Int)) = some (g a) := ixD_l (List.getElem?_range h)
theorem set_range {β : Type} (f : Nat → β) (n a : Nat) (x : β) : ((List.range n).map f).set a x = (List.range n).map fun b => if b = a then x else f b := by
  refine List.ext_getElem (by simp) fun i h1 h2 => ?_
  rw [List.getElem_set]
  simp only [List.getElem_map, List.getElem_range]
  by_cases e : a = i
  · simp [e]
  · have : ¬ i = a := fun q => e q.symm
    simp [e, this]
theorem setD_r {v : D} (h : a < n) : setD (.lst ((List.range n).map g)) (.int (a : Int)) v = some (.lst ((List.range n).map fun b => if b = a then v else g b)) := by
  show (ixAt ((List.range n).map g).length (a : Int)).map _ = _
  rw [List.length_map, List.length_range, show ixAt n (a : Int) = some a from ixN_nat h, Option.map_some, set_range]
end
theorem ix_t0 (x : D) (xs : List D) : ixD (.tup (x :: xs)) (.int 0) = some x := by
  show (ixAt (x :: xs).length ((0 : Nat) : Int)).bind (fun j => (x :: xs)[j]?) = _
  rw [show ixAt (x :: xs).length ((0 : Nat) : Int) = some 0 from ixN_nat (by simp)]; rfl
theorem ix_l0 (x : D) (xs : List D) : ixD (.lst (x :: xs)) (.int 0) = some x := ix_t0 x xs
theorem ix_t1 (x y : D) (xs : List D) : ixD (.tup (x :: y :: xs)) (.int 1) = some y := by
  show (ixAt (x :: y :: xs).length ((1 : Nat) : Int)).bind (fun j => (x :: y :: xs)[j]?) = _
  rw [show ixAt (x :: y :: xs).length ((1 : Nat) : Int) = some 1 from ixN_nat (by simp)]; rfl
theorem ix_l1 (x y : D) (xs : List D) : ixD (.lst (x :: y :: xs)) (.int 1) = some y := ix_t1 x y xs
theorem ix_v0 (p : Lot) (w : List Lot) : ixD (vD (p :: w)) (.int 0) = some (lD p) := ix_t0 _ _
theorem ix_p0 (x y : D) : ixD (.tup [x, y]) (.int 0) = some x := ix_t0 _ _
theorem ixD_p {p : List Int} {i : Nat} (h : i < p.length) : ixD (.tup (p.map D.int)) (.int (i : Int)) = some (.int (p.getD i 0)) := by
  rw [ixD_gt h, getD_at 0 h]
theorem ixD_pl {p : List Int} {i : Nat} (h : i < p.length) : ixD (.lst (p.map D.int)) (.int (i : Int)) = some (.int (p.getD i 0)) := ixD_p h
theorem enum_o (o : List Nat) : enumD (o.map nD) = o.zipIdx.map fun p => .pr (nD p.2) (nD p.1) := by
  unfold enumD
  rw [List.zipIdx_map, List.map_map]
  rfl
theorem enum_m {α : Type} (g : α → D) (o : List α) : enumD (o.map g) = o.zipIdx.map fun p => .pr (nD p.2) (g p.1) := by
  unfold enumD
  rw [List.zipIdx_map, List.map_map]
  rfl
theorem enum_r (g : Nat → D) (n : Nat) : enumD ((List.range n).map g) = (List.range n).map fun a => .pr (nD a) (g a) := by
  rw [enum_m]
  refine List.ext_getElem (by simp) fun i h1 h2 => ?_
  simp
theorem zip_m {α β : Type} (g : α → D) (h : β → D) (xs : List α) (ys : List β) : zipD (.tup (xs.map g)) (.tup (ys.map h)) = some ((xs.zip ys).map fun p => .pr (g p.1) (h p.2)) := by
  show some _ = _
  rw [List.zip_map, List.map_map] <;> rfl
theorem zip_ml {α β : Type} (g : α → D) (h : β → D) (xs : List α) (ys : List β) : zipD (.lst (xs.map g)) (.lst (ys.map h)) = some ((xs.zip ys).map fun p => .pr (g p.1) (h p.2)) := zip_m g h xs ys
theorem zip_lt {α β : Type} (g : α → D) (h : β → D) (xs : List α) (ys : List β) : zipD (.lst (xs.map g)) (.tup (ys.map h)) = some ((xs.zip ys).map fun p => .pr (g p.1) (h p.2)) := zip_m g h xs ys
theorem zip_tl {α β : Type} (g : α → D) (h : β → D) (xs : List α) (ys : List β) : zipD (.tup (xs.map g)) (.lst (ys.map h)) = some ((xs.zip ys).map fun p => .pr (g p.1) (h p.2)) := zip_m g h xs ys
/-! ### built-ins -/
theorem len_l (xs : List D) : bltD .len [.lst xs] = some (.int (xs.length : Nat)) := rfl
theorem len_t (xs : List D) : bltD .len [.tup xs] = some (.int (xs.length : Nat)) := rfl
theorem tuple_l (xs : List D) : bltD .tuple [.lst xs] = some (.tup xs) := rfl
theorem tuple_t (xs : List D) : bltD .tuple [.tup xs] = some (.tup xs) := rfl
theorem list_l (xs : List D) : bltD .list [.lst xs] = some (.lst xs) := rfl
theorem list_t (xs : List D) : bltD .list [.tup xs] = some (.lst xs) := rfl
theorem int_bl (b : Bool) : bltD .int [.bl b] = some (.int (if b = true then 1 else 0)) := rfl
theorem int_int (b : Int) : bltD .int [.int b] = some (.int b) := rfl
theorem toInts_m {α : Type} (f : α → Int) (xs : List α) : toInts (xs.map fun x => D.int (f x)) = some (xs.map f) := by
  have := toInts_map (xs.map f)
  rw [List.map_map] at this
  exact this
theorem sum_l {α : Type} (f : α → Int) (xs : List α) : bltD .sum [.lst (xs.map fun x => D.int (f x))] = some (.int (isum xs f)) := by
  show (toInts _).map _ = _
  rw [toInts_m]; rfl
theorem sum_t {α : Type} (f : α → Int) (xs : List α) : bltD .sum [.tup (xs.map fun x => D.int (f x))] = some (.int (isum xs f)) := sum_l f xs
theorem maxI_spec : ∀ {xs : List Int}, xs ≠ [] → maxI xs ∈ xs ∧ ∀ x ∈ xs, x ≤ maxI xs
  | [], h => (h rfl).elim
  | x :: xs, _ => by
    show xs.foldl max x ∈ x :: xs ∧ ∀ z ∈ x :: xs, z ≤ xs.foldl max x
    induction xs generalizing x with
    | nil => simp
    | cons y ys ih =>
      rw [List.foldl_cons]
      obtain ⟨h1, h2⟩ := ih (max x y) (by simp)
      refine ⟨?_, fun z hz => ?_⟩
      · rcases List.mem_cons.mp h1 with e | e
        · rw [e]
          by_cases q : x ≤ y
          · rw [Int.max_eq_right q]; simp
          · rw [Int.max_eq_left (by omega)]; simp
        · exact List.mem_cons_of_mem _ (List.mem_cons_of_mem _ e)
      · have h3 := h2 (max x y) List.mem_cons_self
        rcases List.mem_cons.mp hz with e | e
        · rw [e]; exact Int.le_trans (Int.le_max_left x y) h3
        · rcases List.mem_cons.mp e with e | e
          · rw [e]; exact Int.le_trans (Int.le_max_right x y) h3
          · exact h2 z (List.mem_cons_of_mem _ e)
theorem minI_spec : ∀ {xs : List Int}, xs ≠ [] → minI xs ∈ xs ∧ ∀ x ∈ xs, minI xs ≤ x
  | [], h => (h rfl).elim
  | x :: xs, _ => by
    show xs.foldl min x ∈ x :: xs ∧ ∀ z ∈ x :: xs, xs.foldl min x ≤ z
    induction xs generalizing x with
    | nil => simp
    | cons y ys ih =>
      rw [List.foldl_cons]
      obtain ⟨h1, h2⟩ := ih (min x y) (by simp)
      refine ⟨?_, fun z hz => ?_⟩
      · rcases List.mem_cons.mp h1 with e | e
        · rw [e]
          by_cases q : x ≤ y
          · rw [Int.min_eq_left q]; simp
          · rw [Int.min_eq_right (by omega)]; simp
        · exact List.mem_cons_of_mem _ (List.mem_cons_of_mem _ e)
      · have h3 := h2 (min x y) List.mem_cons_self
        rcases List.mem_cons.mp hz with e | e
        · rw [e]; exact Int.le_trans h3 (Int.min_le_left x y)
        · rcases List.mem_cons.mp e with e | e
          · rw [e]; exact Int.le_trans h3 (Int.min_le_right x y)
          · exact h2 z (List.mem_cons_of_mem _ e)
theorem maxI_eq {xs : List Int} {m : Int} (h : m ∈ xs) (hl : ∀ x ∈ xs, x ≤ m) : maxI xs = m := by
  have h0 : xs ≠ [] := fun e => by rw [e] at h; cases h
  obtain ⟨h1, h2⟩ := maxI_spec h0
  have := hl _ h1
  have := h2 _ h
  omega
theorem minI_eq {xs : List Int} {m : Int} (h : m ∈ xs) (hl : ∀ x ∈ xs, m ≤ x) : minI xs = m := by
  have h0 : xs ≠ [] := fun e => by rw [e] at h; cases h
  obtain ⟨h1, h2⟩ := minI_spec h0
  have := hl _ h1
  have := h2 _ h
  omega
theorem max_ints {xs : List Int} (h : xs ≠ []) : bltD .max1 [.lst (xs.map D.int)] = some (.int (maxI xs)) := by
  show (toInts _).bind _ = _
  rw [toInts_map]
  show (if _ then _ else _) = _
  rw [if_neg h]
theorem min_ints {xs : List Int} (h : xs ≠ []) : bltD .min1 [.lst (xs.map D.int)] = some (.int (minI xs)) := by
  show (toInts _).bind _ = _
  rw [toInts_map]
  show (if _ then _ else _) = _
  rw [if_neg h]
theorem max_m {α : Type} {f : α → Int} {xs : List α} (h : xs ≠ []) : bltD .max1 [.lst (xs.map fun x => D.int (f x))] = some (.int (maxI (xs.map f))) := by
  have e : (xs.map fun x => D.int (f x)) = (xs.map f).map D.int := by rw [List.map_map]; rfl
  rw [e, max_ints fun z => h (List.map_eq_nil_iff.mp z)]
theorem min_m {α : Type} {f : α → Int} {xs : List α} (h : xs ≠ []) : bltD .min1 [.lst (xs.map fun x => D.int (f x))] = some (.int (minI (xs.map f))) := by
  have e : (xs.map fun x => D.int (f x)) = (xs.map f).map D.int := by rw [List.map_map]; rfl
  rw [e, min_ints fun z => h (List.map_eq_nil_iff.mp z)]
theorem max_of {α : Type} {f : α → Int} {xs : List α} {m : Int} (hm : ∃ x ∈ xs, f x = m) (hl : ∀ x ∈ xs, f x ≤ m) : bltD .max1 [.lst (xs.map fun x => D.int (f x))] = some (.int m) := by
  have e : (xs.map fun x => D.int (f x)) = (xs.map f).map D.int := by rw [List.map_map]; rfl
  obtain ⟨x, hx, rfl⟩ := hm
  rw [e, max_ints (fun z => by rw [List.map_eq_nil_iff] at z; rw [z] at hx; cases hx), maxI_eq (List.mem_map.mpr ⟨x, hx, rfl⟩) fun y hy => ?_]
  obtain ⟨z, hz, rfl⟩ := List.mem_map.mp hy
  exact hl z hz
theorem min_of {α : Type} {f : α → Int} {xs : List α} {m : Int} (hm : ∃ x ∈ xs, f x = m) (hl : ∀ x ∈ xs, m ≤ f x) : bltD .min1 [.lst (xs.map fun x => D.int (f x))] = some (.int m) := by
  have e : (xs.map fun x => D.int (f x)) = (xs.map f).map D.int := by rw [List.map_map]; rfl
  obtain ⟨x, hx, rfl⟩ := hm
  rw [e, min_ints (fun z => by rw [List.map_eq_nil_iff] at z; rw [z] at hx; cases hx), minI_eq (List.mem_map.mpr ⟨x, hx, rfl⟩) fun y hy => ?_]
  obtain ⟨z, hz, rfl⟩ := List.mem_map.mp hy
  exact hl z hz
theorem max_r {n : Nat} {f : Nat → Int} (h : 0 < n) : bltD .max1 [.lst ((List.range n).map fun x => D.int (f x))] = some (.int (mx n f)) :=
  max_of (let ⟨a, h1, h2⟩ := mx_at f h; ⟨a, List.mem_range.mpr h1, h2⟩) fun x hx => le_mx (List.mem_range.mp hx)
theorem max_rt {n : Nat} {f : Nat → Int} (h : 0 < n) : bltD .max1 [.tup ((List.range n).map fun x => D.int (f x))] = some (.int (mx n f)) := max_r h
theorem min_t {xs : List D} : bltD .min1 [.tup xs] = bltD .min1 [.lst xs] := rfl
theorem max_t {xs : List D} : bltD .max1 [.tup xs] = bltD .max1 [.lst xs] := rfl
/-- the first place of the greatest -/
theorem idx_fm {n : Nat} {f : Nat → Int} (h : 0 < n) : idxD (.int (mx n f)) ((List.range n).map fun x => D.int (f x)) = some (nD (fm n f)) := by
  have e : ((List.range n).map fun x => D.int (f x)) = ((List.range n).map f).map D.int := by rw [List.map_map]; rfl
  have hf := fm_is f h
  have hm : mx n f ∈ (List.range n).map f := List.mem_map.mpr ⟨fm n f, List.mem_range.mpr hf.lt, rfl⟩
  rw [e, e_int.idx (by decide) hm]
  have hi := List.idxOf_lt_length_iff.mpr hm
  have h1 := List.getElem_idxOf hi
  rw [List.getElem_map, List.getElem_range] at h1
  have hi2 : ((List.range n).map f).idxOf (mx n f) < n := by simpa using hi
  refine congrArg (fun i : Nat => some (nD i)) (FM.uniq ⟨hi2, fun a ha => ?_, fun a ha => ?_⟩ hf)
  · rw [h1]; exact le_mx ha
  · rw [h1]
    have h2 := List.not_of_lt_findIdx (p := (· == mx n f)) (xs := (List.range n).map f) ha
    rw [List.getElem_map, List.getElem_range] at h2
    have h3 := le_mx (s := f) (show a < n by omega)
    have h4 : f a ≠ mx n f := by simpa using h2
    omega
theorem mth_fm {n : Nat} {f : Nat → Int} (h : 0 < n) : mthD .index (.tup ((List.range n).map fun x => D.int (f x))) [.int (mx n f)] = some (nD (fm n f)) := idx_fm h
theorem mth_fml {n : Nat} {f : Nat → Int} (h : 0 < n) : mthD .index (.lst ((List.range n).map fun x => D.int (f x))) [.int (mx n f)] = some (nD (fm n f)) := idx_fm h
theorem toBls_m {α : Type} (f : α → Bool) (xs : List α) : toBls (xs.map fun x => D.bl (f x)) = some (xs.map f) := by
  have := toBls_map (xs.map f)
  rw [List.map_map] at this
  exact this
theorem all_l {α : Type} (f : α → Bool) (xs : List α) : bltD .all [.lst (xs.map fun x => D.bl (f x))] = some (.bl (xs.all f)) := by
  show (toBls _).map _ = _
  rw [toBls_m, Option.map_some, List.all_map]; rfl
theorem any_l {α : Type} (f : α → Bool) (xs : List α) : bltD .any [.lst (xs.map fun x => D.bl (f x))] = some (.bl (xs.any f)) := by
  show (toBls _).map _ = _
  rw [toBls_m, Option.map_some, List.any_map]; rfl
theorem rev_l {α : Type} (g : α → D) (xs : List α) : revD (.lst (xs.map g)) = some (.lst (xs.reverse.map g)) := by
  show some (D.lst _) = _
  rw [List.map_reverse]
theorem rev_t {α : Type} (g : α → D) (xs : List α) : revD (.tup (xs.map g)) = some (.tup (xs.reverse.map g)) := by
  show some (D.tup _) = _
  rw [List.map_reverse]
theorem slIx_lo (n a : Nat) : slIx n 0 (some (a : Int)) = min a n := HT.sIx_nat n 0 a
theorem cut_lo {xs : List D} (a : Nat) : cutD xs (some (a : Int)) none = xs.drop a := by
  unfold cutD
  rw [slIx_lo]
  show (xs.drop (min a xs.length)).take (xs.length - min a xs.length) = _
  rw [show xs.length - min a xs.length = (xs.drop (min a xs.length)).length by simp, List.take_length]
  by_cases h : a ≤ xs.length
  · rw [Nat.min_eq_left h]
  · rw [Nat.min_eq_right (by omega), List.drop_eq_nil_of_le (by omega), List.drop_eq_nil_of_le (by omega)]
theorem cut_hi {xs : List D} (a : Nat) : cutD xs none (some (a : Int)) = xs.take a := by
  unfold cutD
  show (xs.drop 0).take (slIx xs.length xs.length (some (a : Int)) - 0) = _
  rw [show slIx xs.length xs.length (some (a : Int)) = min a xs.length from HT.sIx_nat _ _ _, List.drop_zero, Nat.sub_zero]
  by_cases h : a ≤ xs.length
  · rw [Nat.min_eq_left h]
  · rw [Nat.min_eq_right (by omega), List.take_of_length_le (by omega), List.take_of_length_le (by omega)]
theorem sl_lo_t {α : Type} (g : α → D) (xs : List α) (a : Nat) : slD (.tup (xs.map g)) (some (a : Int)) none = some (.tup ((xs.drop a).map g)) := by
  show some (D.tup _) = _
  rw [cut_lo, List.map_drop]
theorem sl_lo_l {α : Type} (g : α → D) (xs : List α) (a : Nat) : slD (.lst (xs.map g)) (some (a : Int)) none = some (.lst ((xs.drop a).map g)) := by
  show some (D.lst _) = _
  rw [cut_lo, List.map_drop]
theorem sl_hi_t {α : Type} (g : α → D) (xs : List α) (a : Nat) : slD (.tup (xs.map g)) none (some (a : Int)) = some (.tup ((xs.take a).map g)) := by
  show some (D.tup _) = _
  rw [cut_hi, List.map_take]
theorem sl_hi_l {α : Type} (g : α → D) (xs : List α) (a : Nat) : slD (.lst (xs.map g)) none (some (a : Int)) = some (.lst ((xs.take a).map g)) := by
  show some (D.lst _) = _
  rw [cut_hi, List.map_take]
/-! ### steps, in one -/
theorem of_some {o : Option D} {d : D} (h : o = some d) (Q : D → Prop) : Opt o Q = Q d := by rw [h]; rfl
theorem of_cop {o : Option Bool} {b : Bool} (h : o = some b) (Q : D → Prop) : Opt (o.map D.bl) Q = Q (.bl b) := by rw [h]; rfl
section
variable (Q : D → Prop)
theorem q_add (a b : Int) : Opt (bopD .add (.int a) (.int b)) Q = Q (.int (a + b)) := of_some (bop_add a b) Q
theorem q_sub (a b : Int) : Opt (bopD .sub (.int a) (.int b)) Q = Q (.int (a - b)) := of_some (bop_sub a b) Q
theorem q_lt (a b : Int) : Opt ((copD .lt (.int a) (.int b)).map D.bl) Q = Q (.bl (decide (a < b))) := of_cop (cop_lt a b) Q
theorem q_gt (a b : Int) : Opt ((copD .gt (.int a) (.int b)).map D.bl) Q = Q (.bl (decide (b < a))) := of_cop (cop_gt a b) Q
theorem q_le (a b : Int) : Opt ((copD .le (.int a) (.int b)).map D.bl) Q = Q (.bl (decide (a ≤ b))) := of_cop (cop_le a b) Q
theorem q_ge (a b : Int) : Opt ((copD .ge (.int a) (.int b)).map D.bl) Q = Q (.bl (decide (b ≤ a))) := of_cop (cop_ge a b) Q
theorem q_eq (a b : Int) : Opt ((copD .eq (.int a) (.int b)).map D.bl) Q = Q (.bl (decide (a = b))) := of_cop (eq_int a b) Q
theorem q_ne (a b : Int) : Opt ((copD .ne (.int a) (.int b)).map D.bl) Q = Q (.bl (!decide (a = b))) := of_cop (ne_int a b) Q
theorem q_cop (b : Bool) : Opt ((some b).map D.bl) Q = Q (.bl b) := of_cop rfl Q
theorem q_len_l (xs : List D) : Opt (bltD .len [.lst xs]) Q = Q (.int (xs.length : Nat)) := of_some (len_l xs) Q
theorem q_len_t (xs : List D) : Opt (bltD .len [.tup xs]) Q = Q (.int (xs.length : Nat)) := of_some (len_t xs) Q
theorem q_tuple_l (xs : List D) : Opt (bltD .tuple [.lst xs]) Q = Q (.tup xs) := of_some (tuple_l xs) Q
theorem q_tuple_t (xs : List D) : Opt (bltD .tuple [.tup xs]) Q = Q (.tup xs) := of_some (tuple_t xs) Q
theorem q_list_l (xs : List D) : Opt (bltD .list [.lst xs]) Q = Q (.lst xs) := of_some (list_l xs) Q
theorem q_list_t (xs : List D) : Opt (bltD .list [.tup xs]) Q = Q (.lst xs) := of_some (list_t xs) Q
theorem q_int_bl (b : Bool) : Opt (bltD .int [.bl b]) Q = Q (.int (if b = true then 1 else 0)) := of_some (int_bl b) Q
theorem q_int_int (b : Int) : Opt (bltD .int [.int b]) Q = Q (.int b) := of_some (int_int b) Q
theorem q_isD_tt (xs : List D) : Opt ((isD .tuple (.tup xs)).map D.bl) Q = Q (.bl true) := of_cop rfl Q
theorem q_isD_ii (i : Int) : Opt ((isD .int (.int i)).map D.bl) Q = Q (.bl true) := of_cop rfl Q
theorem q_isD_bi (i : Int) : Opt ((isD .bool (.int i)).map D.bl) Q = Q (.bl false) := of_cop rfl Q
theorem q_ix_t0 (x : D) (xs : List D) : Opt (ixD (.tup (x :: xs)) (.int 0)) Q = Q x := of_some (ix_t0 x xs) Q
theorem q_ix_l0 (x : D) (xs : List D) : Opt (ixD (.lst (x :: xs)) (.int 0)) Q = Q x := of_some (ix_l0 x xs) Q
theorem q_ix_t1 (x y : D) (xs : List D) : Opt (ixD (.tup (x :: y :: xs)) (.int 1)) Q = Q y := of_some (ix_t1 x y xs) Q
theorem q_ix_l1 (x y : D) (xs : List D) : Opt (ixD (.lst (x :: y :: xs)) (.int 1)) Q = Q y := of_some (ix_l1 x y xs) Q
theorem q_ix_v0 (p : Lot) (w : List Lot) : Opt (ixD (vD (p :: w)) (.int 0)) Q = Q (lD p) := of_some (ix_v0 p w) Q
theorem q_c0 (o : Option D) (ρ : DEnv) : Opt ((o :: ρ).getD 0 none) Q = Opt o Q := rfl
theorem q_cs (o : Option D) (ρ : DEnv) (i : Nat) : Opt ((o :: ρ).getD (i + 1) none) Q = Opt (ρ.getD i none) Q := rfl
theorem q_sn {i j : Nat} (ρ : DEnv) (o : Option D) (h : i ≠ j) : Opt ((ρ.set i o).getD j none) Q = Opt (ρ.getD j none) Q := by
  rw [List.getD_eq_getElem?_getD, List.getElem?_set_ne h, ← List.getD_eq_getElem?_getD]
theorem q_se {i : Nat} (ρ : DEnv) (o : Option D) (h : i < ρ.length) : Opt ((ρ.set i o).getD i none) Q = Opt o Q := by
  rw [List.getD_eq_getElem?_getD, List.getElem?_set_self h]; rfl
theorem m_it (xs : List D) (P : Prop) : (mtOk .index (.tup xs) = true ∧ P) = P := propext ⟨fun h => h.2, fun h => ⟨rfl, h⟩⟩
theorem m_il (xs : List D) (P : Prop) : (mtOk .index (.lst xs) = true ∧ P) = P := propext ⟨fun h => h.2, fun h => ⟨rfl, h⟩⟩
theorem m_g2 (xs : List (PySem.NestedKey × D)) (P : Prop) : (mtOk .get2 (.dT xs) = true ∧ P) = P := propext ⟨fun h => h.2, fun h => ⟨rfl, h⟩⟩
end
end PL
/-! PC: dicts whose keys are rows of things. -/
namespace PL
open DL Vt
abbrev lo : List Nat → List Nat → Bool := lef oD
theorem lo_le : Le lo := le_lef oD
theorem lo_anti : Anti lo := e_oD.anti
abbrev VK (n B : Nat) (v : List Lot) : Prop := VOk n B lo v
def okey (o : List Nat) : PySem.NestedKey := .tup (o.map fun (a : Nat) => .num (a : Int))
abbrev kD (v : List Lot) : D := .dT (v.map fun p => (okey p.1, .int p.2))
theorem toNKs_o (o : List Nat) : toNKs (o.map nD) = some (o.map fun (a : Nat) => .num (a : Int)) := by
  induction o with
  | nil => rfl
  | cons a o ih => rw [List.map_cons, toNKs, toNK, ih]; rfl
theorem depth_o (o : List Nat) : PySem.NestedKey.depthAll (o.map fun (a : Nat) => .num (a : Int)) ≤ 7 := by
  induction o with
  | nil => decide
  | cons a o ih =>
    rw [List.map_cons, PySem.NestedKey.depthAll, PySem.NestedKey.depth]
    omega
theorem keyT_o (o : List Nat) : keyT (oD o) = some (okey o) := by
  rw [keyT, toNKs_o]
  show (if _ then _ else _) = _
  rw [if_pos (depth_o o)]
  rfl
theorem ofNKs_o (o : List Nat) : ofNKs (o.map fun (a : Nat) => .num (a : Int)) = o.map nD := by
  induction o with
  | nil => rfl
  | cons a o ih => rw [List.map_cons, ofNKs, ofNK, ih]; rfl
theorem ofNK_o (o : List Nat) : ofNK (okey o) = oD o := by
  unfold okey
  rw [ofNK, ofNKs_o]
theorem okey_inj {a b : List Nat} (h : okey a = okey b) : a = b := by
  have := congrArg ofNK h
  rw [ofNK_o, ofNK_o] at this
  have e := (e_oD.eq a b)
  rw [this, e_oD.eq] at e
  simpa using e
section
variable {v : List Lot} {o : List Nat} {m : Int}
theorem dGet_k (v : List Lot) (o : List Nat) : dGet (v.map fun p => (okey p.1, D.int p.2)) (okey o) = (aGet v o).map D.int := by
  induction v with
  | nil => rfl
  | cons p v ih =>
    unfold dGet at ih ⊢
    rw [List.map_cons, List.find?_cons, aGet_cons]
    by_cases e : p.1 = o
    · simp [e]
    · have : ¬ okey p.1 = okey o := fun q => e (okey_inj q)
      simp only [this, decide_false, e, if_false]
      exact ih
theorem dPut_k (v : List Lot) (o : List Nat) (m : Int) : dPut (v.map fun p => (okey p.1, D.int p.2)) (okey o) (.int m) = (aPut v o m).map fun p => (okey p.1, D.int p.2) := by
  unfold dPut aPut
  have e : ∀ p : Lot, decide (okey p.1 = okey o) = decide (p.1 = o) := fun p => by
    by_cases q : p.1 = o
    · simp [q]
    · have : ¬ okey p.1 = okey o := fun z => q (okey_inj z)
      simp [q, this]
  rw [List.any_map]
  have e2 : ((fun kv : PySem.NestedKey × D => decide (kv.1 = okey o)) ∘ fun p : Lot => (okey p.1, D.int p.2)) = fun p => decide (p.1 = o) := funext fun p => e p
  rw [e2]
  split
  · rw [List.map_map, List.map_map]
    refine List.map_congr_left fun p _ => ?_
    simp only [Function.comp]
    by_cases q : p.1 = o
    · rw [if_pos (by rw [q]), if_pos q]
    · rw [if_neg fun z => q (okey_inj z), if_neg q]
  · rw [List.map_append]; rfl
theorem get2_k (v : List Lot) (o : List Nat) : mthD .get2 (kD v) [oD o, .int 0] = some (.int (cnt v o)) := by
  show (keyT (oD o)).map _ = _
  rw [keyT_o, Option.map_some, dGet_k]
  unfold cnt
  cases aGet v o <;> rfl
theorem setD_k (h : v.length < 16777216) : setD (kD v) (oD o) (.int m) = some (kD (aPut v o m)) := by
  show (if _ then _ else _) = _
  rw [List.length_map, if_pos (by rw [size_line]; exact h), keyT_o, Option.map_some, dPut_k]
theorem ixD_k (h : aGet v o = some m) : ixD (kD v) (oD o) = some (.int m) := by
  show (keyT (oD o)).bind _ = _
  rw [keyT_o, Option.bind_some, dGet_k, h]; rfl
theorem inn_k (v : List Lot) (o : List Nat) : copD .inn (oD o) (kD v) = some (aGet v o).isSome := by
  show (keyT (oD o)).map _ = _
  rw [keyT_o, Option.map_some, dGet_k]
  cases aGet v o <;> rfl
theorem items_k (v : List Lot) : ((v.map fun p => (okey p.1, D.int p.2)).map fun kv => D.pr (ofNK kv.1) kv.2) = v.map fun p => D.pr (oD p.1) (.int p.2) := by
  rw [List.map_map]
  refine List.map_congr_left fun p _ => ?_
  simp only [Function.comp, ofNK_o]
theorem toPairT_l (p : Lot) : toPairT (lD p) = some (okey p.1, D.int p.2) := by
  show (keyT (oD p.1)).map _ = _
  rw [keyT_o]; rfl
theorem mapM_l (v : List Lot) : (v.map lD).mapM toPairT = some (v.map fun p => (okey p.1, D.int p.2)) := by
  induction v with
  | nil => rfl
  | cons p v ih => rw [List.map_cons, List.mapM_cons, toPairT_l, ih]; rfl
theorem merge_k (w v : List Lot) (h : KN (w ++ v)) : mergeD (w.map fun p => (okey p.1, D.int p.2)) (v.map fun p => (okey p.1, D.int p.2)) = (w ++ v).map fun p => (okey p.1, D.int p.2) := by
  induction v generalizing w with
  | nil => simp [mergeD]
  | cons p v ih =>
    unfold mergeD at ih ⊢
    rw [List.map_cons, List.foldl_cons, dPut_k]
    have h1 : aGet w p.1 = none := by
      rw [aGet_none]
      intro q hq e
      unfold KN at h
      rw [List.map_append, List.nodup_append] at h
      exact h.2.2 _ (List.mem_map.mpr ⟨q, hq, rfl⟩) _ (by rw [List.map_cons]; exact List.mem_cons_self) e
    rw [aPut_none _ h1]
    have e : w ++ p :: v = (w ++ [p]) ++ v := by simp
    rw [e] at h ⊢
    exact ih (w ++ [p]) h
theorem dictT_v (h : KN v) : bltD .dictT [vD v] = some (kD v) := by
  show ((v.map lD).mapM toPairT).map _ = _
  rw [mapM_l, Option.map_some]
  have := merge_k [] v (by simpa using h)
  simp only [List.map_nil, List.nil_append] at this
  rw [this]
theorem dictT_l (h : KN v) : bltD .dictT [.lst (v.map lD)] = some (kD v) := dictT_v h
theorem nonNil_l (p : Lot) : nonNil (lD p) = true := rfl
theorem nonNil_o (o : List Nat) : nonNil (oD o) = true := rfl
theorem sort_lots (h : KN v) : sortD (v.map lD) = (asc lo v).map lD := by
  rw [sort_map, asc_pairs lo_anti (le_lef lD) (fun p q hp => e_oD.fst D.int p q hp) h lo_le]
theorem srt_items (h : KN v) : sfD .srt ((v.map fun p => D.pr (oD p.1) (.int p.2)).map unPr) = some (.lst ((asc lo v).map lD)) := by
  have e : ((v.map fun p => D.pr (oD p.1) (.int p.2)).map unPr) = v.map lD := by
    rw [List.map_map]; rfl
  rw [e]
  show (if _ then _ else _) = _
  rw [if_pos (e_lD.sortable (by decide) v (.inl fun x _ => nonNil_l x)), sort_lots h]
theorem sorted_lots (h : KN v) : bltD .sorted [.lst (v.map lD)] = some (.lst ((asc lo v).map lD)) := by
  show (if _ then _ else _) = _
  rw [if_pos (e_lD.sortable (by decide) v (.inl fun x _ => nonNil_l x)), sort_lots h]
theorem keysT_k (v : List Lot) : keysT (v.map fun p => (okey p.1, D.int p.2)) = (v.map (·.1)).map oD := by
  unfold keysT
  rw [List.map_map, List.map_map]
  refine List.map_congr_left fun p _ => ?_
  simp only [Function.comp, ofNK_o]
theorem sorted_k (v : List Lot) : bltD .sorted [kD v] = some (.lst (((asc lo v).map (·.1)).map oD)) := by
  show (if _ then _ else _) = _
  rw [keysT_k, if_pos (e_oD.sortable (by decide) _ (.inl fun x hx => ?_)), sort_map, asc_map_keys]
  obtain ⟨p, hp, rfl⟩ := List.mem_map.mp hx
  exact nonNil_o _
end
/-! ### tables -/
section
variable {n : Nat} {f : Nat → Nat → Int}
abbrev tL (n : Nat) (f : Nat → Nat → Int) : D := .lst ((List.range n).map fun a => .lst ((List.range n).map fun b => .int (f a b)))
abbrev tT (n : Nat) (f : Nat → Nat → Int) : D := .tup ((List.range n).map fun a => .tup ((List.range n).map fun b => .int (f a b)))
def upd2 (f : Nat → Nat → Int) (a b : Nat) (x : Int) : Nat → Nat → Int := fun a' b' => if a' = a then if b' = b then x else f a' b' else f a' b'
theorem tL_get {a : Nat} (h : a < n) : ixD (tL n f) (.int (a : Int)) = some (.lst ((List.range n).map fun b => .int (f a b))) := ixD_r h
theorem tT_get {a : Nat} (h : a < n) : ixD (tT n f) (.int (a : Int)) = some (.tup ((List.range n).map fun b => .int (f a b))) := ixD_rt h
theorem tL_row {a : Nat} (h : a < n) : rowD (tL n f) (.int (a : Int)) = some (.lst ((List.range n).map fun b => .int (f a b))) := ixD_r h
theorem tL_set {a b : Nat} (ha : a < n) (hb : b < n) (x : Int) : setD2 (tL n f) (.int (a : Int)) (.lst ((List.range n).map fun b => .int (f a b))) (.int (b : Int)) (.int x) = some (tL n (upd2 f a b x)) := by
  show (ixAt _ (a : Int)).bind (fun j => (ixAt _ (b : Int)).map _) = _
  rw [List.length_map, List.length_range, show ixAt n (a : Int) = some a from ixN_nat ha, Option.bind_some, List.length_map, List.length_range, show ixAt n (b : Int) = some b from ixN_nat hb, Option.map_some, set_range, set_range]
  congr 2
  refine List.map_congr_left fun a' _ => ?_
  unfold upd2
  by_cases e : a' = a
  · subst e
    rw [if_pos rfl]
    congr 1
    refine List.map_congr_left fun b' _ => ?_
    rw [if_pos rfl]
    split <;> rfl
  · rw [if_neg e]
    congr 1
    refine List.map_congr_left fun b' _ => ?_
    rw [if_neg e]
theorem tL_congr {g : Nat → Nat → Int} (h : ∀ a b, a < n → b < n → f a b = g a b) : tL n f = tL n g := by
  show D.lst _ = D.lst _
  congr 1
  refine List.map_congr_left fun a ha => ?_
  congr 1
  refine List.map_congr_left fun b hb => ?_
  rw [h a b (List.mem_range.mp ha) (List.mem_range.mp hb)]
end
theorem map_erase {α β : Type} (f : α → β) (xs : List α) (i : Nat) : (xs.map f).eraseIdx i = (xs.eraseIdx i).map f := by
  rw [List.eraseIdx_eq_take_drop_succ, List.eraseIdx_eq_take_drop_succ, List.map_append, List.map_take, List.map_drop]
theorem pop_perm {α : Type} {xs : List α} {i : Nat} (h : i < xs.length) : (xs[i] :: xs.eraseIdx i).Perm xs := by
  rw [List.eraseIdx_eq_take_drop_succ]
  refine List.perm_middle.symm.trans ?_
  rw [List.getElem_cons_drop, List.take_append_drop]
theorem zipIdx_at {α : Type} {xs : List α} {i : Nat} {x : α × Nat} (h : xs.zipIdx[i]? = some x) : xs[i]? = some x.1 ∧ x.2 = i := by
  rw [List.getElem?_zipIdx] at h
  cases e : xs[i]? with
  | none => rw [e] at h; cases h
  | some y => rw [e] at h; cases h; simp
theorem _root_.Vt.IsOrd.idx_at {n : Nat} {o : List Nat} (h : IsOrd n o) {i a : Nat} (e : o[i]? = some a) : o.idxOf a = i ∧ a < n ∧ i < n := by
  obtain ⟨hi, e2⟩ := List.getElem?_eq_some_iff.mp e
  refine ⟨by rw [← e2]; exact h.nodup.idxOf_getElem i hi, ?_, by rw [← h.len]; exact hi⟩
  rw [← h.mem, ← e2]
  exact List.getElem_mem hi
end PL
/-! PD: likes as data. -/
namespace PL
open DL Vt
abbrev LK (n B : Nat) (v : List Lot) : Prop := LOk n B lo v
theorem zip_same {α : Type} (xs : List α) : xs.zip xs = xs.map fun x => (x, x) := by
  induction xs with
  | nil => rfl
  | cons x xs ih => rw [List.zip_cons_cons, ih]; rfl
theorem isum_if {κ : Type} (v : List (κ × Int)) (c : κ → Prop) [DecidablePred c] : isum (v.filter fun p => decide (c p.1)) (fun p => p.2) = vsum v fun o => if c o then 1 else 0 := by
  unfold vsum
  rw [isum_filter]
  refine isum_congr fun p _ => ?_
  by_cases e : c p.1
  · rw [if_pos (decide_eq_true e)]
    show p.2 = p.2 * (if c p.1 then 1 else 0)
    rw [if_pos e, Int.mul_one]
  · rw [if_neg (by simpa using e)]
    show 0 = p.2 * (if c p.1 then 1 else 0)
    rw [if_neg e, Int.mul_zero]
theorem ltD_le (a b : D) : ltD a b = !leD b a := by
  rw [leD_lt, Bool.not_not]; rfl
theorem lt_oD (a b : List Nat) : copD .lt (oD a) (oD b) = some (!lo b a) := by
  show (if cmpOk _ _ = true then _ else _) = _
  have h : cmpOk (a.map nD) (b.map nD) = true := by
    unfold cmpOk
    rw [e_nD.als, e_nD.als, e_nD.pls 57 (by decide), e_nD.pls 57 (by decide)]
    rfl
  rw [if_pos h, ltD_le]
  rfl
theorem up_lt {a b : List Nat} (h : lo a b = true) (hne : a ≠ b) : lo b a = false := by
  rw [Bool.eq_false_iff]
  exact fun z => hne (lo_anti _ _ h z)
/-- neighbours in a row -/
theorem zip_next {α : Type} {R : α → α → Prop} : ∀ {xs : List α}, xs.Pairwise R → ∀ x ∈ xs.zip (xs.drop 1), R x.1 x.2
  | [], _, x, h => by simp at h
  | [a], _, x, h => by simp at h
  | a :: b :: xs, hp, x, h => by
    simp only [List.drop_succ_cons, List.drop_zero, List.zip_cons_cons, List.mem_cons] at h
    rw [List.pairwise_cons] at hp
    rcases h with e | h
    · rw [e]; exact hp.1 b List.mem_cons_self
    · exact zip_next hp.2 x h
theorem map_cast (o : List Nat) : (o.map fun a : Nat => D.int (a : Int)) = o.map nD := rfl
theorem sort_nats (xs : List Nat) : sortD (xs.map nD) = (xs.mergeSort).map nD := by
  rw [sort_map]
  congr 2
  funext a b
  show leD (.int _) (.int _) = decide (a ≤ b)
  rw [leD_int]
  by_cases h : a ≤ b
  · simp [h]
  · simp [h]
theorem sorted_nats (xs : List Nat) : bltD .sorted [.tup (xs.map nD)] = some (.lst ((xs.mergeSort).map nD)) := by
  show (if _ then _ else _) = _
  rw [if_pos (e_nD.sortable (by decide) xs (.inr fun x _ => rfl)), sort_nats]
theorem sorted_natsl (xs : List Nat) : bltD .sorted [.lst (xs.map nD)] = some (.lst ((xs.mergeSort).map nD)) := by
  show (if _ then _ else _) = _
  rw [if_pos (e_nD.sortable (by decide) xs (.inr fun x _ => rfl)), sort_nats]
theorem ne_rows {n : Nat} {f g : Nat → Int} (h : ∀ a, a < n → f a = g a) : copD .ne (.lst ((List.range n).map fun a => .int (f a))) (.lst ((List.range n).map fun a => .int (g a))) = some false := by
  rw [show ((List.range n).map fun a => D.int (f a)) = (List.range n).map fun a => D.int (g a) from List.map_congr_left fun a ha => by rw [h a (List.mem_range.mp ha)]]
  exact e_int.comp_lst g n
theorem eq_rows {n : Nat} {f g : Nat → Int} (h : ∀ a, a < n → f a = g a) : copD .eq (.lst ((List.range n).map fun a => .int (f a))) (.lst ((List.range n).map fun a => .int (g a))) = some true := by
  rw [show ((List.range n).map fun a => D.int (f a)) = ((List.range n).map g).map D.int by rw [List.map_map]; exact List.map_congr_left fun a ha => by rw [h a (List.mem_range.mp ha)]; rfl]
  rw [show ((List.range n).map fun a => D.int (g a)) = ((List.range n).map g).map D.int by rw [List.map_map]; rfl]
  rw [e_int.lst.cop_eq (by decide)]
  simp
theorem ne_tbl {n : Nat} {f g : Nat → Nat → Int} (h : ∀ a b, a < n → b < n → f a b = g a b) : copD .ne (tT n f) (tT n g) = some false := by
  have e : ∀ f : Nat → Nat → Int, tT n f = .tup (((List.range n).map fun a => (List.range n).map (f a)).map iD) := fun f => by
    show D.tup _ = D.tup _
    rw [List.map_map]
    congr 1
    refine List.map_congr_left fun a _ => ?_
    show D.tup _ = D.tup _
    rw [List.map_map]
    rfl
  rw [e f, e g, e_iD.tup.cop_ne (by decide)]
  rw [show ((List.range n).map fun a => (List.range n).map (f a)) = ((List.range n).map fun a => (List.range n).map (g a)) from List.map_congr_left fun a ha => List.map_congr_left fun b hb => h a b (List.mem_range.mp ha) (List.mem_range.mp hb)]
  simp
theorem sorted_topk (o : List Nat) (k : Nat) : bltD .sorted [.tup ((o.take k).map nD)] = some (.lst ((topk k o).map nD)) := sorted_nats _
theorem len_dT (xs : List (PySem.NestedKey × D)) : bltD .len [.dT xs] = some (.int (xs.length : Nat)) := rfl
theorem zip_range (st : List Nat) (m : Nat) (h : st.length = m) : st.zip (List.range m) = (List.range m).map fun j => (st.getD j 0, j) := by
  subst h
  refine List.ext_getElem (by simp) fun i h1 h2 => ?_
  rw [List.getElem_zip, List.getElem_map, List.getElem_range, getD_at 0 (by simpa using h2)]
end PL
namespace R85
open PySem PySem.Spec PyProof.Rows L2 DL
def g0 : Gam := fun _ => none
def ir_voters_of : Ss := (.cons (.ret (.blt .sum (.cons false (.comp (.pn [1, 2]) (.seq (.v 0)) .nil (.v 2) [1, 2]) .nil))) .nil)
def G_voters_of : List DL.D → (DL.D → Prop) → Prop := defG g0 1 3 ir_voters_of
def g_voters_of : Gam := addG g0 "voters_of" G_voters_of
def ir_top_count : Ss := (.cons (.ret (.blt .sum (.cons false (.comp (.pn [3, 4]) (.seq (.v 0)) (.cons false (.cmp .lt (.mth .index (.v 3) (.cons false (.v 1) .nil)) (.v 2)) .nil) (.v 4) [3, 4]) .nil))) .nil)
def G_top_count : List DL.D → (DL.D → Prop) → Prop := defG g_voters_of 3 5 ir_top_count
def g_top_count : Gam := addG g_voters_of "top_count" G_top_count
def ir_top_counts : Ss := (.cons (.asg 1 0 (.blt .len (.cons false (.ix (.ix (.v 0) (.int 0)) (.int 0)) .nil))) (.cons (.ret (.blt .tuple (.cons false (.comp (.p 3) (.rng1 (.v 1)) .nil (.blt .tuple (.cons false (.comp (.p 2) (.rng2 (.int 1) (.v 1)) .nil (.call "top_count" (.cons false (.v 0) (.cons false (.v 3) (.cons false (.v 2) .nil)))) [2]) .nil)) [3]) .nil))) .nil))
theorem lk_g_top_count_top_count : g_top_count "top_count" = some (false, G_top_count) := by rfl
def G_top_counts : List DL.D → (DL.D → Prop) → Prop := defG g_top_count 1 4 ir_top_counts
def g_top_counts : Gam := addG g_top_count "top_counts" G_top_counts
def ir_is_ahead_always : Ss := (.cons (.asg 3 0 (.call "top_counts" (.cons false (.v 0) .nil))) (.cons (.ret (.blt .all (.cons false (.comp (.pn [4, 5]) (.zip (.ix (.v 3) (.v 1)) (.ix (.v 3) (.v 2))) .nil (.cmp .ge (.v 4) (.v 5)) [4, 5]) .nil))) .nil))
theorem lk_g_top_counts_top_counts : g_top_counts "top_counts" = some (false, G_top_counts) := by rfl
def G_is_ahead_always : List DL.D → (DL.D → Prop) → Prop := defG g_top_counts 3 6 ir_is_ahead_always
def g_is_ahead_always : Gam := addG g_top_counts "is_ahead_always" G_is_ahead_always
def ir_is_above_always : Ss := (.cons (.asg 3 0 (.call "top_counts" (.cons false (.v 0) .nil))) (.cons (.ret (.blt .all (.cons false (.comp (.pn [4, 5]) (.zip (.ix (.v 3) (.v 1)) (.ix (.v 3) (.v 2))) .nil (.cmp .gt (.v 4) (.v 5)) [4, 5]) .nil))) .nil))
theorem lk_g_is_ahead_always_top_counts : g_is_ahead_always "top_counts" = some (false, G_top_counts) := by rfl
def G_is_above_always : List DL.D → (DL.D → Prop) → Prop := defG g_is_ahead_always 3 6 ir_is_above_always
def g_is_above_always : Gam := addG g_is_ahead_always "is_above_always" G_is_above_always
def ir_never_winners : Ss := (.cons (.asg 1 0 (.blt .len (.cons false (.ix (.ix (.v 0) (.int 0)) (.int 0)) .nil))) (.cons (.ret (.blt .tuple (.cons false (.comp (.p 2) (.rng1 (.v 1)) (.cons false (.blt .any (.cons false (.comp (.p 3) (.rng1 (.v 1)) .nil (.call "is_above_always" (.cons false (.v 0) (.cons false (.v 3) (.cons false (.v 2) .nil)))) [3]) .nil)) .nil) (.v 2) [2]) .nil))) .nil))
theorem lk_g_is_above_always_is_above_always : g_is_above_always "is_above_always" = some (false, G_is_above_always) := by rfl
def G_never_winners : List DL.D → (DL.D → Prop) → Prop := defG g_is_above_always 1 4 ir_never_winners
def g_never_winners : Gam := addG g_is_above_always "never_winners" G_never_winners
def ir_is_thing_lot : Ss := (.cons (.iff (.nt (.isin (.v 1) .tuple)) (.cons (.ret (.bl false)) .nil) .nil) (.cons (.iff (.nt (.blt .all (.cons false (.comp (.p 2) (.seq (.v 1)) .nil (.and (.cons false (.isin (.v 2) .int) (.cons false (.nt (.isin (.v 2) .bool)) (.cons false (.cmp2 .le .lt (.int 0) (.v 2) (.v 0)) .nil)))) [2]) .nil))) (.cons (.ret (.bl false)) .nil) .nil) (.cons (.ret (.blt .all (.cons false (.comp (.pn [2, 3]) (.zip (.v 1) (.sl (.v 1) (.yes (.int 1)) .no)) .nil (.cmp .lt (.v 2) (.v 3)) [2, 3]) .nil))) .nil)))
def G_is_thing_lot : List DL.D → (DL.D → Prop) → Prop := defG g_never_winners 2 4 ir_is_thing_lot
def g_is_thing_lot : Gam := addG g_never_winners "is_thing_lot" G_is_thing_lot
def ir_is_like_pair : Ss := (.cons (.iff (.or (.cons false (.nt (.isin (.v 1) .tuple)) (.cons false (.cmp .ne (.blt .len (.cons false (.v 1) .nil)) (.int 2)) (.cons false (.nt (.call "is_thing_lot" (.cons false (.v 0) (.cons false (.ix (.v 1) (.int 0)) .nil)))) .nil)))) (.cons (.ret (.bl false)) .nil) .nil) (.cons (.ret (.and (.cons false (.isin (.ix (.v 1) (.int 1)) .int) (.cons false (.nt (.isin (.ix (.v 1) (.int 1)) .bool)) (.cons false (.cmp .gt (.ix (.v 1) (.int 1)) (.int 0)) .nil))))) .nil))
theorem lk_g_is_thing_lot_is_thing_lot : g_is_thing_lot "is_thing_lot" = some (false, G_is_thing_lot) := by rfl
def G_is_like_pair : List DL.D → (DL.D → Prop) → Prop := defG g_is_thing_lot 2 2 ir_is_like_pair
def g_is_like_pair : Gam := addG g_is_thing_lot "is_like_pair" G_is_like_pair
def ir_are_likes : Ss := (.cons (.iff (.or (.cons false (.nt (.isin (.v 1) .tuple)) (.cons false (.nt (.blt .all (.cons false (.comp (.p 2) (.seq (.v 1)) .nil (.call "is_like_pair" (.cons false (.v 0) (.cons false (.v 2) .nil))) [2]) .nil))) .nil))) (.cons (.ret (.bl false)) .nil) .nil) (.cons (.ret (.blt .all (.cons false (.comp (.pn [3, 4]) (.zip (.v 1) (.sl (.v 1) (.yes (.int 1)) .no)) .nil (.cmp .lt (.ix (.v 3) (.int 0)) (.ix (.v 4) (.int 0))) [3, 4]) .nil))) .nil))
theorem lk_g_is_like_pair_is_like_pair : g_is_like_pair "is_like_pair" = some (false, G_is_like_pair) := by rfl
def G_are_likes : List DL.D → (DL.D → Prop) → Prop := defG g_is_like_pair 2 5 ir_are_likes
def g_are_likes : Gam := addG g_is_like_pair "are_likes" G_are_likes
def ir_like_counts : Ss := (.cons (.ret (.blt .tuple (.cons false (.comp (.p 4) (.rng1 (.v 0)) .nil (.blt .sum (.cons false (.comp (.pn [2, 3]) (.seq (.v 1)) (.cons false (.cmp .inn (.v 4) (.v 2)) .nil) (.v 3) [2, 3]) .nil)) [4]) .nil))) .nil)
def G_like_counts : List DL.D → (DL.D → Prop) → Prop := defG g_are_likes 2 5 ir_like_counts
def g_like_counts : Gam := addG g_are_likes "like_counts" G_like_counts
def ir_the_liked : Ss := (.cons (.asg 2 0 (.call "like_counts" (.cons false (.v 0) (.cons false (.v 1) .nil)))) (.cons (.ret (.blt .tuple (.cons false (.comp (.p 3) (.rng1 (.v 0)) (.cons false (.cmp .eq (.ix (.v 2) (.v 3)) (.blt .max1 (.cons false (.v 2) .nil))) .nil) (.v 3) [3]) .nil))) .nil))
theorem lk_g_like_counts_like_counts : g_like_counts "like_counts" = some (false, G_like_counts) := by rfl
def G_the_liked : List DL.D → (DL.D → Prop) → Prop := defG g_like_counts 2 4 ir_the_liked
def g_the_liked : Gam := addG g_like_counts "the_liked" G_the_liked
def ir_gathered : Ss := (.cons (.asg 1 1 (.dnil true)) (.cons (.for_ (.pn [2, 3]) (.seq (.v 0)) (.cons (.setix 1 (.v 2) (.bin .add (.mth .get2 (.v 1) (.cons false (.v 2) (.cons false (.int 0) .nil))) (.v 3))) .nil)) (.cons (.ret (.blt .tuple (.cons false (.comp (.p 2) (.seq (.blt .sorted (.cons false (.v 1) .nil))) (.cons false (.cmp .gt (.ix (.v 1) (.v 2)) (.int 0)) .nil) (.tup (.cons false (.v 2) (.cons false (.ix (.v 1) (.v 2)) .nil))) [2]) .nil))) .nil)))
def G_gathered : List DL.D → (DL.D → Prop) → Prop := defG g_the_liked 1 4 ir_gathered
def g_gathered : Gam := addG g_the_liked "gathered" G_gathered
def ir_likes_together : Ss := (.cons (.ret (.call "gathered" (.cons false (.bin .add (.v 0) (.v 1)) .nil))) .nil)
theorem lk_g_gathered_gathered : g_gathered "gathered" = some (false, G_gathered) := by rfl
def G_likes_together : List DL.D → (DL.D → Prop) → Prop := defG g_gathered 2 2 ir_likes_together
def g_likes_together : Gam := addG g_gathered "likes_together" G_likes_together
def ir_likes_times : Ss := (.cons (.ret (.call "gathered" (.cons false (.comp (.pn [2, 3]) (.seq (.v 0)) .nil (.tup (.cons false (.v 2) (.cons false (.bin .mul (.v 1) (.v 3)) .nil))) [2, 3]) .nil))) .nil)
theorem lk_g_likes_together_gathered : g_likes_together "gathered" = some (false, G_gathered) := by rfl
def G_likes_times : List DL.D → (DL.D → Prop) → Prop := defG g_likes_together 2 4 ir_likes_times
def g_likes_times : Gam := addG g_likes_together "likes_times" G_likes_times
def ir_lot_left : Ss := (.cons (.ret (.blt .tuple (.cons false (.comp (.p 2) (.rng1 (.v 0)) (.cons false (.cmp .notin (.v 2) (.v 1)) .nil) (.v 2) [2]) .nil))) .nil)
def G_lot_left : List DL.D → (DL.D → Prop) → Prop := defG g_likes_times 2 3 ir_lot_left
def g_lot_left : Gam := addG g_likes_times "lot_left" G_lot_left
def ir_turned_likes : Ss := (.cons (.ret (.call "gathered" (.cons false (.comp (.pn [2, 3]) (.seq (.v 1)) .nil (.tup (.cons false (.call "lot_left" (.cons false (.v 0) (.cons false (.v 2) .nil))) (.cons false (.v 3) .nil))) [2, 3]) .nil))) .nil)
theorem lk_g_lot_left_gathered : g_lot_left "gathered" = some (false, G_gathered) := by rfl
theorem lk_g_lot_left_lot_left : g_lot_left "lot_left" = some (false, G_lot_left) := by rfl
def G_turned_likes : List DL.D → (DL.D → Prop) → Prop := defG g_lot_left 2 4 ir_turned_likes
def g_turned_likes : Gam := addG g_lot_left "turned_likes" G_turned_likes
def ir_steps_of_counts : Ss := (.cons (.asg 1 1 (.lst (.cons false (.tup (.cons false (.seq .tup (.rng1 (.blt .len (.cons false (.v 0) .nil)))) (.cons false (.blt .min1 (.cons false (.v 0) .nil)) .nil))) .nil))) (.cons (.for_ (.p 2) (.rng2 (.bin .add (.blt .min1 (.cons false (.v 0) .nil)) (.int 1)) (.bin .add (.blt .max1 (.cons false (.v 0) .nil)) (.int 1))) (.cons (.app 1 (.tup (.cons false (.blt .tuple (.cons false (.comp (.pn [3, 4]) (.enum (.v 0)) (.cons false (.cmp .ge (.v 4) (.v 2)) .nil) (.v 3) [3, 4]) .nil)) (.cons false (.int 1) .nil)))) .nil)) (.frz 1 (.cons (.ret (.call "gathered" (.cons false (.v 1) .nil))) .nil))))
theorem lk_g_turned_likes_gathered : g_turned_likes "gathered" = some (false, G_gathered) := by rfl
def G_steps_of_counts : List DL.D → (DL.D → Prop) → Prop := defG g_turned_likes 1 5 ir_steps_of_counts
def g_steps_of_counts : Gam := addG g_turned_likes "steps_of_counts" G_steps_of_counts
def ir_more_like : Ss := (.cons (.ret (.blt .sum (.cons false (.comp (.pn [3, 4]) (.seq (.v 0)) (.cons false (.and (.cons false (.cmp .inn (.v 1) (.v 3)) (.cons false (.cmp .notin (.v 2) (.v 3)) .nil))) .nil) (.v 4) [3, 4]) .nil))) .nil)
def G_more_like : List DL.D → (DL.D → Prop) → Prop := defG g_steps_of_counts 3 5 ir_more_like
def g_more_like : Gam := addG g_steps_of_counts "more_like" G_more_like
def ir_like_beats : Ss := (.cons (.asg 2 1 (.lst .nil)) (.cons (.for_ (.p 3) (.rng1 (.v 0)) (.cons (.app 2 (.blt .tuple (.cons false (.comp (.p 4) (.rng1 (.v 0)) .nil (.blt .int (.cons false (.cmp .gt (.call "more_like" (.cons false (.v 1) (.cons false (.v 3) (.cons false (.v 4) .nil)))) (.call "more_like" (.cons false (.v 1) (.cons false (.v 4) (.cons false (.v 3) .nil))))) .nil)) [4]) .nil))) .nil)) (.cons (.ret (.blt .tuple (.cons false (.v 2) .nil))) .nil)))
theorem lk_g_more_like_more_like : g_more_like "more_like" = some (false, G_more_like) := by rfl
def G_like_beats : List DL.D → (DL.D → Prop) → Prop := defG g_more_like 2 5 ir_like_beats
def g_like_beats : Gam := addG g_more_like "like_beats" G_like_beats
def ir_unbeaten : Ss := (.cons (.asg 2 0 (.call "like_beats" (.cons false (.v 0) (.cons false (.v 1) .nil)))) (.cons (.ret (.blt .tuple (.cons false (.comp (.p 3) (.rng1 (.v 0)) (.cons false (.nt (.blt .any (.cons false (.comp (.p 4) (.seq (.v 2)) .nil (.cmp .eq (.ix (.v 4) (.v 3)) (.int 1)) [4]) .nil))) .nil) (.v 3) [3]) .nil))) .nil))
theorem lk_g_like_beats_like_beats : g_like_beats "like_beats" = some (false, G_like_beats) := by rfl
def G_unbeaten : List DL.D → (DL.D → Prop) → Prop := defG g_like_beats 2 5 ir_unbeaten
def g_unbeaten : Gam := addG g_like_beats "unbeaten" G_unbeaten
def ir_scores_of : Ss := (.cons (.asg 2 1 (.bin .mul (.lst (.cons false (.int 0) .nil)) (.blt .len (.cons false (.v 0) .nil)))) (.cons (.for_ (.pn [3, 4]) (.seq (.v 1)) (.cons (.for_ (.pn [5, 6]) (.enum (.v 3)) (.cons (.setix 2 (.v 6) (.bin .add (.ix (.v 2) (.v 6)) (.bin .mul (.v 4) (.ix (.v 0) (.v 5))))) .nil)) .nil)) (.cons (.ret (.blt .tuple (.cons false (.v 2) .nil))) .nil)))
def G_scores_of : List DL.D → (DL.D → Prop) → Prop := defG g_unbeaten 2 7 ir_scores_of
def g_scores_of : Gam := addG g_unbeaten "scores_of" G_scores_of
def ir_point_winners : Ss := (.cons (.asg 2 0 (.call "scores_of" (.cons false (.v 0) (.cons false (.v 1) .nil)))) (.cons (.ret (.blt .tuple (.cons false (.comp (.pn [3, 4]) (.enum (.v 2)) (.cons false (.cmp .eq (.v 4) (.blt .max1 (.cons false (.v 2) .nil))) .nil) (.v 3) [3, 4]) .nil))) .nil))
theorem lk_g_scores_of_scores_of : g_scores_of "scores_of" = some (false, G_scores_of) := by rfl
def G_point_winners : List DL.D → (DL.D → Prop) → Prop := defG g_scores_of 2 5 ir_point_winners
def g_point_winners : Gam := addG g_scores_of "point_winners" G_point_winners
def ir_gathered_votes : Ss := (.cons (.asg 1 1 (.dnil true)) (.cons (.for_ (.pn [2, 3]) (.seq (.v 0)) (.cons (.setix 1 (.v 2) (.bin .add (.mth .get2 (.v 1) (.cons false (.v 2) (.cons false (.int 0) .nil))) (.v 3))) .nil)) (.cons (.ret (.blt .tuple (.cons false (.seq .srt (.items (.v 1))) .nil))) .nil)))
def G_gathered_votes : List DL.D → (DL.D → Prop) → Prop := defG g_point_winners 1 4 ir_gathered_votes
def g_gathered_votes : Gam := addG g_point_winners "gathered_votes" G_gathered_votes
def ir_turned_votes : Ss := (.cons (.ret (.call "gathered_votes" (.cons false (.comp (.pn [1, 2]) (.seq (.v 0)) .nil (.tup (.cons false (.rev (.v 1)) (.cons false (.v 2) .nil))) [1, 2]) .nil))) .nil)
theorem lk_g_gathered_votes_gathered_votes : g_gathered_votes "gathered_votes" = some (false, G_gathered_votes) := by rfl
def G_turned_votes : List DL.D → (DL.D → Prop) → Prop := defG g_gathered_votes 1 3 ir_turned_votes
def g_turned_votes : Gam := addG g_gathered_votes "turned_votes" G_turned_votes
def ir__law_pick : Ss := (.cons (.iff (.cmp .lt (.v 1) (.int 2)) (.cons (.ret (.int 0)) .nil) .nil) (.cons (.drain 0) (.cons (.asg 2 0 (.sg 0 .left)) (.cons (.iff (.cmp .gt (.v 2) (.int 1)) (.cons (.sset 0 .left (.bin .fdiv (.v 2) (.v 1))) (.cons (.ret (.bin .mod (.blt .int (.cons false (.v 2) .nil)) (.v 1))) .nil)) .nil) (.cons (.sset 0 .turn (.bin .add (.sg 0 .turn) (.int 1))) (.cons (.asg 3 0 (.bin .mod (.blt .int (.cons false (.bin .add (.sg 0 .mixed) (.bin .mul (.sg 0 .turn) (.int 104729))) .nil)) (.int 998244353))) (.cons (.asg 3 0 (.bin .mod (.blt .int (.cons false (.bin .add (.bin .mul (.v 3) (.v 3)) (.bin .mul (.sg 0 .turn) (.int 17))) .nil)) (.int 2147483647))) (.cons (.sset 0 .mixed (.v 3)) (.cons (.ret (.bin .mod (.blt .int (.cons false (.bin .fdiv (.v 3) (.int 16)) .nil)) (.v 1))) .nil)))))))))
def G__law_pick : List DL.D → (DL.D → Prop) → Prop := defG g_turned_votes 2 4 ir__law_pick
def g__law_pick : Gam := addG g_turned_votes "_law_pick" G__law_pick
def ir__law_of : Ss := (.cons (.ret (.ix (.v 1) (.call "_law_pick" (.cons false (.v 0) (.cons false (.blt .len (.cons false (.v 1) .nil)) .nil))))) .nil)
theorem lk_g__law_pick__law_pick : g__law_pick "_law_pick" = some (false, G__law_pick) := by rfl
def G__law_of : List DL.D → (DL.D → Prop) → Prop := defG g__law_pick 2 2 ir__law_of
def g__law_of : Gam := addG g__law_pick "_law_of" G__law_of
def ir__law_mixed : Ss := (.cons (.par 2 1 3 1 (.blt .list (.cons false (.v 1) .nil)) (.lst .nil)) (.cons (.whl (.cmp .ne (.v 2) (.lst .nil)) (.cons (.appPop 3 2 (.call "_law_pick" (.cons false (.v 0) (.cons false (.blt .len (.cons false (.v 2) .nil)) .nil)))) .nil)) (.frz 3 (.cons (.ret (.v 3)) .nil))))
theorem lk_g__law_of__law_pick : g__law_of "_law_pick" = some (false, G__law_pick) := by rfl
def G__law_mixed : List DL.D → (DL.D → Prop) → Prop := defG g__law_of 2 4 ir__law_mixed
def g__law_mixed : Gam := addG g__law_of "_law_mixed" G__law_mixed
def ir__law_votes : Ss := (.cons (.asg 3 1 (.dnil true)) (.cons (.for_ (.p 4) (.rng1 (.bin .add (.int 1) (.call "_law_pick" (.cons false (.v 0) (.cons false (.int 8) .nil))))) (.cons (.setix 3 (.blt .tuple (.cons false (.call "_law_mixed" (.cons false (.v 0) (.cons false (.seq .lst (.rng1 (.v 1))) .nil))) .nil)) (.bin .add (.int 1) (.call "_law_pick" (.cons false (.v 0) (.cons false (.v 2) .nil))))) .nil)) (.cons (.ret (.blt .tuple (.cons false (.comp (.p 5) (.seq (.blt .sorted (.cons false (.v 3) .nil))) .nil (.tup (.cons false (.v 5) (.cons false (.ix (.v 3) (.v 5)) .nil))) [5]) .nil))) .nil)))
theorem lk_g__law_mixed__law_pick : g__law_mixed "_law_pick" = some (false, G__law_pick) := by rfl
theorem lk_g__law_mixed__law_mixed : g__law_mixed "_law_mixed" = some (false, G__law_mixed) := by rfl
def G__law_votes : List DL.D → (DL.D → Prop) → Prop := defG g__law_mixed 3 6 ir__law_votes
def g__law_votes : Gam := addG g__law_mixed "_law_votes" G__law_votes
def ir__law_scores : Ss := (.cons (.asg 2 1 (.bin .mul (.lst (.cons false (.int 0) .nil)) (.blt .len (.cons false (.v 0) .nil)))) (.cons (.for_ (.pn [3, 4]) (.seq (.v 1)) (.cons (.for_ (.pn [5, 6]) (.zip (.v 0) (.v 3)) (.cons (.setix 2 (.v 6) (.bin .add (.ix (.v 2) (.v 6)) (.bin .mul (.v 4) (.v 5)))) .nil)) .nil)) (.frz 2 (.cons (.ret (.v 2)) .nil))))
def G__law_scores : List DL.D → (DL.D → Prop) → Prop := defG g__law_votes 2 7 ir__law_scores
def g__law_scores : Gam := addG g__law_votes "_law_scores" G__law_scores
def ir__law_likes : Ss := (.cons (.asg 2 1 (.dnil true)) (.cons (.for_ (.pn [3, 4]) (.seq (.v 0)) (.cons (.asg 5 0 (.blt .tuple (.cons false (.blt .sorted (.cons false (.sl (.v 3) .no (.yes (.v 1))) .nil)) .nil))) (.cons (.setix 2 (.v 5) (.bin .add (.mth .get2 (.v 2) (.cons false (.v 5) (.cons false (.int 0) .nil))) (.v 4))) .nil))) (.cons (.ret (.blt .tuple (.cons false (.comp (.p 5) (.seq (.blt .sorted (.cons false (.v 2) .nil))) .nil (.tup (.cons false (.v 5) (.cons false (.ix (.v 2) (.v 5)) .nil))) [5]) .nil))) .nil)))
def G__law_likes : List DL.D → (DL.D → Prop) → Prop := defG g__law_scores 2 6 ir__law_likes
def g__law_likes : Gam := addG g__law_scores "_law_likes" G__law_likes
def ir__law_counts : Ss := (.cons (.ret (.comp (.p 4) (.rng1 (.v 0)) .nil (.blt .sum (.cons false (.comp (.pn [2, 3]) (.seq (.v 1)) (.cons false (.cmp .inn (.v 4) (.v 2)) .nil) (.v 3) [2, 3]) .nil)) [4])) .nil)
def G__law_counts : List DL.D → (DL.D → Prop) → Prop := defG g__law_likes 2 5 ir__law_counts
def g__law_counts : Gam := addG g__law_likes "_law_counts" G__law_counts
def ir__law_row_right : Ss := (.cons (.par 4 0 5 0 (.call "_law_likes" (.cons false (.v 1) (.cons false (.v 2) .nil))) (.call "voters_of" (.cons false (.v 1) .nil))) (.cons (.asg 6 0 (.call "_law_counts" (.cons false (.v 0) (.cons false (.v 4) .nil)))) (.cons (.iff (.or (.cons false (.cmp .isnot (.call "are_likes" (.cons false (.v 0) (.cons false (.v 4) .nil))) (.bl true)) (.cons false (.cmp .ne (.blt .list (.cons false (.call "like_counts" (.cons false (.v 0) (.cons false (.v 4) .nil))) .nil)) (.v 6)) .nil))) (.cons (.ret (.bl false)) .nil) .nil) (.cons (.iff (.or (.cons false (.and (.cons false (.cmp .lt (.v 2) (.v 0)) (.cons false (.cmp .ne (.v 6) (.comp (.p 7) (.seq (.v 3)) .nil (.ix (.v 7) (.bin .sub (.v 2) (.int 1))) [7])) .nil))) (.cons false (.and (.cons false (.cmp .eq (.v 2) (.v 0)) (.cons false (.cmp .ne (.v 6) (.bin .mul (.lst (.cons false (.v 5) .nil)) (.v 0))) .nil))) .nil))) (.cons (.ret (.bl false)) .nil) .nil) (.cons (.asg 8 0 (.blt .tuple (.cons false (.comp (.p 9) (.rng1 (.v 0)) (.cons false (.cmp .eq (.ix (.v 6) (.v 9)) (.blt .max1 (.cons false (.v 6) .nil))) .nil) (.v 9) [9]) .nil))) (.cons (.iff (.or (.cons false (.cmp .ne (.call "the_liked" (.cons false (.v 0) (.cons false (.v 4) .nil))) (.v 8)) (.cons false (.cmp .ne (.call "unbeaten" (.cons false (.v 0) (.cons false (.v 4) .nil))) (.v 8)) .nil))) (.cons (.ret (.bl false)) .nil) .nil) (.cons (.iff (.cmp .lt (.v 2) (.v 0)) (.cons (.asg 10 0 (.bin .add (.bin .mul (.tup (.cons false (.int 1) .nil)) (.v 2)) (.bin .mul (.tup (.cons false (.int 0) .nil)) (.bin .sub (.v 0) (.v 2))))) (.cons (.iff (.or (.cons false (.cmp .ne (.call "point_winners" (.cons false (.v 10) (.cons false (.v 1) .nil))) (.v 8)) (.cons false (.cmp .ne (.blt .list (.cons false (.call "scores_of" (.cons false (.v 10) (.cons false (.v 1) .nil))) .nil)) (.v 6)) .nil))) (.cons (.ret (.bl false)) .nil) .nil) .nil)) .nil) (.cons (.asg 11 0 (.blt .tuple (.cons false (.comp (.p 9) (.rng1 (.v 0)) .nil (.blt .tuple (.cons false (.comp (.p 12) (.rng1 (.v 0)) .nil (.blt .int (.cons false (.cmp .gt (.ix (.v 6) (.v 9)) (.ix (.v 6) (.v 12))) .nil)) [12]) .nil)) [9]) .nil))) (.cons (.iff (.cmp .ne (.call "like_beats" (.cons false (.v 0) (.cons false (.v 4) .nil))) (.v 11)) (.cons (.ret (.bl false)) .nil) .nil) (.cons (.asg 13 0 (.call "turned_likes" (.cons false (.v 0) (.cons false (.v 4) .nil)))) (.cons (.iff (.cmp .ne (.blt .list (.cons false (.call "like_counts" (.cons false (.v 0) (.cons false (.v 13) .nil))) .nil)) (.comp (.p 14) (.seq (.v 6)) .nil (.bin .sub (.v 5) (.v 14)) [14])) (.cons (.ret (.bl false)) .nil) .nil) (.cons (.ret (.or (.cons false (.cmp .eq (.v 2) (.v 0)) (.cons false (.cmp .eq (.v 13) (.call "_law_likes" (.cons false (.call "turned_votes" (.cons false (.v 1) .nil)) (.cons false (.bin .sub (.v 0) (.v 2)) .nil)))) .nil)))) .nil))))))))))))
theorem lk_g__law_counts__law_likes : g__law_counts "_law_likes" = some (false, G__law_likes) := by rfl
theorem lk_g__law_counts_voters_of : g__law_counts "voters_of" = some (false, G_voters_of) := by rfl
theorem lk_g__law_counts__law_counts : g__law_counts "_law_counts" = some (false, G__law_counts) := by rfl
theorem lk_g__law_counts_are_likes : g__law_counts "are_likes" = some (false, G_are_likes) := by rfl
theorem lk_g__law_counts_like_counts : g__law_counts "like_counts" = some (false, G_like_counts) := by rfl
theorem lk_g__law_counts_the_liked : g__law_counts "the_liked" = some (false, G_the_liked) := by rfl
theorem lk_g__law_counts_unbeaten : g__law_counts "unbeaten" = some (false, G_unbeaten) := by rfl
theorem lk_g__law_counts_point_winners : g__law_counts "point_winners" = some (false, G_point_winners) := by rfl
theorem lk_g__law_counts_scores_of : g__law_counts "scores_of" = some (false, G_scores_of) := by rfl
theorem lk_g__law_counts_like_beats : g__law_counts "like_beats" = some (false, G_like_beats) := by rfl
theorem lk_g__law_counts_turned_likes : g__law_counts "turned_likes" = some (false, G_turned_likes) := by rfl
theorem lk_g__law_counts_turned_votes : g__law_counts "turned_votes" = some (false, G_turned_votes) := by rfl
def G__law_row_right : List DL.D → (DL.D → Prop) → Prop := defG g__law_counts 4 15 ir__law_row_right
def g__law_row_right : Gam := addG g__law_counts "_law_row_right" G__law_row_right
def ir__law_points_right : Ss := (.cons (.asg 4 0 (.comp (.p 5) (.rng1 (.bin .sub (.v 1) (.int 1))) .nil (.call "_law_pick" (.cons false (.v 0) (.cons false (.int 4) .nil))) [5])) (.cons (.iff (.cmp .eq (.blt .sum (.cons false (.v 4) .nil)) (.int 0)) (.cons (.ret (.bl true)) .nil) .nil) (.cons (.par3 6 0 7 0 8 1 (.comp (.p 5) (.rng1 (.v 1)) .nil (.blt .sum (.cons false (.sl (.v 4) (.yes (.v 5)) .no) .nil)) [5]) (.tup .nil) (.dnil true)) (.cons (.for_ (.p 5) (.rng2 (.int 1) (.v 1)) (.cons (.for_ (.pn [9, 10]) (.seq (.ite (.cmp .gt (.ix (.v 4) (.bin .sub (.v 5) (.int 1))) (.int 0)) (.call "_law_likes" (.cons false (.v 2) (.cons false (.v 5) .nil))) (.tup .nil))) (.cons (.setix 8 (.v 9) (.bin .add (.mth .get2 (.v 8) (.cons false (.v 9) (.cons false (.int 0) .nil))) (.bin .mul (.v 10) (.ix (.v 4) (.bin .sub (.v 5) (.int 1)))))) .nil)) .nil)) (.cons (.iff (.or (.cons false (.cmp .gt (.blt .len (.cons false (.v 8) .nil)) (.int 30)) (.cons false (.cmp .gt (.blt .max1 (.cons false (.comp (.p 9) (.keys (.v 8)) .nil (.ix (.v 8) (.v 9)) [9]) .nil)) (.int 1000)) .nil))) (.cons (.ret (.bl true)) .nil) .nil) (.cons (.for_ (.p 5) (.rng2 (.int 1) (.v 1)) (.cons (.asg 7 0 (.call "likes_together" (.cons false (.v 7) (.cons false (.call "likes_times" (.cons false (.call "_law_likes" (.cons false (.v 2) (.cons false (.v 5) .nil))) (.cons false (.ix (.v 4) (.bin .sub (.v 5) (.int 1))) .nil))) .nil)))) .nil)) (.cons (.asg 11 0 (.call "_law_scores" (.cons false (.v 6) (.cons false (.v 2) .nil)))) (.cons (.iff (.or (.cons false (.cmp .ne (.v 7) (.blt .tuple (.cons false (.comp (.p 9) (.seq (.blt .sorted (.cons false (.v 8) .nil))) .nil (.tup (.cons false (.v 9) (.cons false (.ix (.v 8) (.v 9)) .nil))) [9]) .nil))) (.cons false (.cmp .isnot (.call "are_likes" (.cons false (.v 1) (.cons false (.v 7) .nil))) (.bl true)) .nil))) (.cons (.ret (.bl false)) .nil) .nil) (.cons (.iff (.cmp .ne (.blt .list (.cons false (.call "like_counts" (.cons false (.v 1) (.cons false (.v 7) .nil))) .nil)) (.v 11)) (.cons (.ret (.bl false)) .nil) .nil) (.cons (.iff (.cmp .ne (.v 11) (.comp (.p 13) (.seq (.v 3)) .nil (.blt .sum (.cons false (.comp (.pn [12, 10]) (.zip (.v 4) (.v 13)) .nil (.bin .mul (.v 12) (.v 10)) [12, 10]) .nil)) [13])) (.cons (.ret (.bl false)) .nil) .nil) (.cons (.asg 14 0 (.blt .tuple (.cons false (.comp (.p 15) (.rng1 (.v 1)) (.cons false (.cmp .eq (.ix (.v 11) (.v 15)) (.blt .max1 (.cons false (.v 11) .nil))) .nil) (.v 15) [15]) .nil))) (.cons (.ret (.and (.cons false (.cmp .eq (.call "the_liked" (.cons false (.v 1) (.cons false (.v 7) .nil))) (.v 14)) (.cons false (.cmp .eq (.call "point_winners" (.cons false (.blt .tuple (.cons false (.v 6) .nil)) (.cons false (.v 2) .nil))) (.v 14)) .nil)))) .nil))))))))))))
theorem lk_g__law_row_right__law_pick : g__law_row_right "_law_pick" = some (false, G__law_pick) := by rfl
theorem lk_g__law_row_right__law_likes : g__law_row_right "_law_likes" = some (false, G__law_likes) := by rfl
theorem lk_g__law_row_right_likes_together : g__law_row_right "likes_together" = some (false, G_likes_together) := by rfl
theorem lk_g__law_row_right_likes_times : g__law_row_right "likes_times" = some (false, G_likes_times) := by rfl
theorem lk_g__law_row_right__law_scores : g__law_row_right "_law_scores" = some (false, G__law_scores) := by rfl
theorem lk_g__law_row_right_are_likes : g__law_row_right "are_likes" = some (false, G_are_likes) := by rfl
theorem lk_g__law_row_right_like_counts : g__law_row_right "like_counts" = some (false, G_like_counts) := by rfl
theorem lk_g__law_row_right_the_liked : g__law_row_right "the_liked" = some (false, G_the_liked) := by rfl
theorem lk_g__law_row_right_point_winners : g__law_row_right "point_winners" = some (false, G_point_winners) := by rfl
def G__law_points_right : List DL.D → (DL.D → Prop) → Prop := defG g__law_row_right 4 16 ir__law_points_right
def g__law_points_right : Gam := addG g__law_row_right "_law_points_right" G__law_points_right
def ir_law : Ss := (.cons (.asg 2 0 (.bin .add (.int 2) (.call "_law_pick" (.cons false (.v 1) (.cons false (.int 7) .nil))))) (.cons (.asg 3 0 (.call "_law_votes" (.cons false (.v 1) (.cons false (.v 2) (.cons false (.call "_law_of" (.cons false (.v 1) (.cons false (.lst (.cons false (.int 1) (.cons false (.int 5) (.cons false (.int 100) .nil)))) .nil))) .nil))))) (.cons (.asg 4 0 (.comp (.p 5) (.seq (.call "top_counts" (.cons false (.v 3) .nil))) .nil (.blt .list (.cons false (.v 5) .nil)) [5])) (.cons (.for_ (.p 6) (.rng1 (.v 2)) (.cons (.asg 7 0 (.comp (.p 10) (.rng2 (.int 1) (.v 2)) .nil (.blt .sum (.cons false (.comp (.pn [8, 9]) (.seq (.v 3)) (.cons false (.cmp .lt (.mth .index (.v 8) (.cons false (.v 6) .nil)) (.v 10)) .nil) (.v 9) [8, 9]) .nil)) [10])) (.cons (.iff (.cmp .ne (.ix (.v 4) (.v 6)) (.v 7)) (.cons (.ret (.bl false)) .nil) .nil) .nil))) (.cons (.for_ (.p 10) (.rng2 (.int 1) (.bin .add (.v 2) (.int 1))) (.cons (.iff (.nt (.call "_law_row_right" (.cons false (.v 2) (.cons false (.v 3) (.cons false (.v 10) (.cons false (.v 4) .nil)))))) (.cons (.ret (.bl false)) .nil) .nil) .nil)) (.cons (.iff (.nt (.call "_law_points_right" (.cons false (.v 1) (.cons false (.v 2) (.cons false (.v 3) (.cons false (.v 4) .nil)))))) (.cons (.ret (.bl false)) .nil) .nil) (.cons (.for_ (.p 6) (.rng1 (.v 2)) (.cons (.for_ (.p 11) (.rng1 (.v 2)) (.cons (.asg 12 0 (.cmp .eq (.comp (.p 10) (.rng2 (.int 1) (.v 2)) (.cons false (.cmp .lt (.ix (.call "_law_counts" (.cons false (.v 2) (.cons false (.call "_law_likes" (.cons false (.v 3) (.cons false (.v 10) .nil))) .nil))) (.v 11)) (.ix (.ix (.v 4) (.v 6)) (.bin .sub (.v 10) (.int 1)))) .nil) (.v 10) [10]) (.lst .nil))) (.cons (.iff (.cmp .ne (.call "is_ahead_always" (.cons false (.v 3) (.cons false (.v 11) (.cons false (.v 6) .nil)))) (.v 12)) (.cons (.ret (.bl false)) .nil) .nil) (.cons (.iff (.and (.cons false (.call "is_above_always" (.cons false (.v 3) (.cons false (.v 11) (.cons false (.v 6) .nil)))) (.cons false (.or (.cons false (.cmp .notin (.v 6) (.call "never_winners" (.cons false (.v 3) .nil))) (.cons false (.nt (.v 12)) .nil))) .nil))) (.cons (.ret (.bl false)) .nil) .nil) .nil)))) .nil)) (.cons (.asg 13 0 (.comp (.p 6) (.rng1 (.v 2)) (.cons false (.cmp .eq (.comp (.p 10) (.rng2 (.int 1) (.v 2)) (.cons false (.cmp .notin (.v 6) (.call "the_liked" (.cons false (.v 2) (.cons false (.call "_law_likes" (.cons false (.v 3) (.cons false (.v 10) .nil))) .nil)))) .nil) (.v 10) [10]) (.lst .nil)) .nil) (.v 6) [6])) (.cons (.asg 14 0 (.blt .tuple (.cons false (.sl (.rev (.blt .sorted (.cons false (.bin .add (.comp (.p 15) (.rng1 (.v 2)) .nil (.call "_law_pick" (.cons false (.v 1) (.cons false (.int 9) .nil))) [15]) (.lst (.cons false (.int 0) .nil))) .nil))) .no (.yes (.v 2))) .nil))) (.cons (.iff (.and (.cons false (.cmp .gt (.ix (.v 14) (.int 0)) (.ix (.v 14) (.bin .sub (.v 2) (.int 1)))) (.cons false (.cmp .ne (.comp (.p 6) (.seq (.v 13)) (.cons false (.cmp .notin (.v 6) (.call "point_winners" (.cons false (.v 14) (.cons false (.v 3) .nil)))) .nil) (.v 6) [6]) (.lst .nil)) .nil))) (.cons (.ret (.bl false)) .nil) .nil) (.cons (.asg 16 0 (.call "like_counts" (.cons false (.v 2) (.cons false (.call "_law_likes" (.cons false (.v 3) (.cons false (.int 1) .nil))) .nil)))) (.cons (.asg 17 0 (.call "steps_of_counts" (.cons false (.v 16) .nil))) (.cons (.iff (.cmp .gt (.blt .max1 (.cons false (.v 16) .nil)) (.int 1000)) (.cons (.ret (.bl true)) .nil) .nil) (.cons (.ret (.and (.cons false (.cmp .eq (.blt .list (.cons false (.call "like_counts" (.cons false (.v 2) (.cons false (.v 17) .nil))) .nil)) (.blt .list (.cons false (.v 16) .nil))) (.cons false (.cmp .eq (.call "the_liked" (.cons false (.v 2) (.cons false (.v 17) .nil))) (.call "the_liked" (.cons false (.v 2) (.cons false (.call "_law_likes" (.cons false (.v 3) (.cons false (.int 1) .nil))) .nil)))) .nil)))) .nil))))))))))))))
theorem lk_g__law_points_right__law_pick : g__law_points_right "_law_pick" = some (false, G__law_pick) := by rfl
theorem lk_g__law_points_right__law_votes : g__law_points_right "_law_votes" = some (false, G__law_votes) := by rfl
theorem lk_g__law_points_right__law_of : g__law_points_right "_law_of" = some (false, G__law_of) := by rfl
theorem lk_g__law_points_right_top_counts : g__law_points_right "top_counts" = some (false, G_top_counts) := by rfl
theorem lk_g__law_points_right__law_row_right : g__law_points_right "_law_row_right" = some (false, G__law_row_right) := by rfl
theorem lk_g__law_points_right__law_points_right : g__law_points_right "_law_points_right" = some (false, G__law_points_right) := by rfl
theorem lk_g__law_points_right__law_counts : g__law_points_right "_law_counts" = some (false, G__law_counts) := by rfl
theorem lk_g__law_points_right__law_likes : g__law_points_right "_law_likes" = some (false, G__law_likes) := by rfl
theorem lk_g__law_points_right_is_ahead_always : g__law_points_right "is_ahead_always" = some (false, G_is_ahead_always) := by rfl
theorem lk_g__law_points_right_is_above_always : g__law_points_right "is_above_always" = some (false, G_is_above_always) := by rfl
theorem lk_g__law_points_right_never_winners : g__law_points_right "never_winners" = some (false, G_never_winners) := by rfl
theorem lk_g__law_points_right_the_liked : g__law_points_right "the_liked" = some (false, G_the_liked) := by rfl
theorem lk_g__law_points_right_point_winners : g__law_points_right "point_winners" = some (false, G_point_winners) := by rfl
theorem lk_g__law_points_right_like_counts : g__law_points_right "like_counts" = some (false, G_like_counts) := by rfl
theorem lk_g__law_points_right_steps_of_counts : g__law_points_right "steps_of_counts" = some (false, G_steps_of_counts) := by rfl
/-- the law holds of the data -/
def LawHolds : Prop := wpSs g__law_points_right ir_law (lawD 18 1) ⟨fun _ => False, fun d => d = .bl true, fun _ => False, fun _ => False⟩
end R85
namespace R85
open DL PL Vt
local macro_rules | `(tactic| walk_at "wp") => `(tactic| try simp -implicitDefEqProofs only [↓wpE_v, ↓wpE_non, ↓wpE_bl, ↓wpE_int, ↓wpE_str, ↓wpE_tup, ↓wpE_lst, ↓wpE_dnil, ↓wpE_bin, ↓wpE_neg, ↓wpE_nt, ↓wpE_and, ↓wpE_or, ↓wpE_ite, ↓wpE_cmp, ↓wpE_cmp2, ↓wpE_ix, ↓wpE_sl, ↓wpE_rev, ↓wpE_call, ↓wpE_blt, ↓wpE_seq, ↓wpE_mth, ↓wpE_isin, ↓wpE_sg, ↓wpE_comp, ↓wpEo_no, ↓wpEo_yes, ↓wpXs_nil, ↓wpXs_consF, ↓wpXs_consT, ↓wpAnd_nil, ↓wpAnd_cons, ↓wpOr_nil, ↓wpOr_cons, ↓wpIt_seq, ↓wpIt_rng1, ↓wpIt_rng2, ↓wpIt_rng3, ↓wpIt_enum, ↓wpIt_zip, ↓wpIt_items, ↓wpIt_keys, ↓wpS_asg, ↓wpS_unp, ↓wpS_par, ↓wpS_par3, ↓wpS_setix, ↓wpS_setix2, ↓wpS_app, ↓wpS_ext, ↓wpS_ret, ↓wpS_iff, ↓wpS_for_, ↓wpS_whl, ↓wpS_brk, ↓wpS_cont, ↓wpS_exp, ↓wpS_sset, ↓wpS_drain, ↓wpS_appPop, ↓wpSs_nil, ↓wpSs_cons, ↓wpSs_frz, ↓wpSs_drn, ↓Opt_some', ↓q_add, ↓q_sub, ↓q_lt, ↓q_gt, ↓q_le, ↓q_ge, ↓q_eq, ↓q_ne, ↓q_cop, ↓q_len_l, ↓q_len_t, ↓q_tuple_l, ↓q_tuple_t, ↓q_list_l, ↓q_list_t, ↓q_int_bl, ↓q_int_int, ↓q_isD_tt, ↓q_isD_ii, ↓q_isD_bi, ↓q_ix_t0, ↓q_ix_l0, ↓q_ix_t1, ↓q_ix_l1, ↓q_ix_v0, ↓q_c0, ↓q_cs, ↓q_sn, ↓q_se, ↓m_it, ↓m_il, ↓m_g2, Opt_some', ↓dB_bl, dB_bl, ↓dI_int, dI_int, ↓bp1, ↓bp2t, ↓bp2p, ↓bp2l, bp2t, bp2p, bp2l, ↓if_tt, ↓if_ff, ↓reduceIte, Bool.false_eq_true, decide_eq_true_eq, Int.ofNat_lt, Int.ofNat_le, Int.ofNat_inj, ix_v0, seqOf_t, seqOf_l, bop_add, bop_sub, cop_lt, cop_gt, cop_le, cop_ge, omap_bl, eq_int, ne_int, mtOk_it, mtOk_il, mtOk_g2, len_l, len_t, tuple_l, tuple_t, isD_tt, isD_ii, isD_bi, Bool.not_true, Bool.not_false, Option.map_some, ix_t0, ix_t1, ix_l0, ix_l1, list_l, list_t, int_bl, int_int, range_nD', enum_r, enum_o, zip_m, zip_ml, zip_lt, zip_tl, rev_l, rev_t, min_t, max_t, List.set_cons_zero, List.set_cons_succ, List.getD_cons_zero, List.getD_cons_succ, startD, List.map_cons, List.map_nil, List.length_cons, List.length_nil, List.replicate, List.cons_append, List.nil_append, true_and, wipeD, size_line, Nat.zero_le, and_self, Nat.reduceAdd, Nat.reduceLeDiff, Nat.reduceEqDiff, List.length_set, ne_eq, not_false_eq_true, Nat.reduceLT, lk_g_top_count_top_count, lk_g_top_counts_top_counts, lk_g_is_ahead_always_top_counts, lk_g_is_above_always_is_above_always, lk_g_is_thing_lot_is_thing_lot, lk_g_is_like_pair_is_like_pair, lk_g_like_counts_like_counts, lk_g_gathered_gathered, lk_g_likes_together_gathered, lk_g_lot_left_gathered, lk_g_lot_left_lot_left, lk_g_turned_likes_gathered, lk_g_more_like_more_like, lk_g_like_beats_like_beats, lk_g_scores_of_scores_of, lk_g_gathered_votes_gathered_votes, lk_g__law_pick__law_pick, lk_g__law_of__law_pick, lk_g__law_mixed__law_pick, lk_g__law_mixed__law_mixed, lk_g__law_counts__law_likes, lk_g__law_counts_voters_of, lk_g__law_counts__law_counts, lk_g__law_counts_are_likes, lk_g__law_counts_like_counts, lk_g__law_counts_the_liked, lk_g__law_counts_unbeaten, lk_g__law_counts_point_winners, lk_g__law_counts_scores_of, lk_g__law_counts_like_beats, lk_g__law_counts_turned_likes, lk_g__law_counts_turned_votes, lk_g__law_row_right__law_pick, lk_g__law_row_right__law_likes, lk_g__law_row_right_likes_together, lk_g__law_row_right_likes_times, lk_g__law_row_right__law_scores, lk_g__law_row_right_are_likes, lk_g__law_row_right_like_counts, lk_g__law_row_right_the_liked, lk_g__law_row_right_point_winners, lk_g__law_points_right__law_pick, lk_g__law_points_right__law_votes, lk_g__law_points_right__law_of, lk_g__law_points_right_top_counts, lk_g__law_points_right__law_row_right, lk_g__law_points_right__law_points_right, lk_g__law_points_right__law_counts, lk_g__law_points_right__law_likes, lk_g__law_points_right_is_ahead_always, lk_g__law_points_right_is_above_always, lk_g__law_points_right_never_winners, lk_g__law_points_right_the_liked, lk_g__law_points_right_point_winners, lk_g__law_points_right_like_counts, lk_g__law_points_right_steps_of_counts])
local macro_rules | `(tactic| walk_at "st") => `(tactic| refine seq_step (fun r hr => ?_) <;> walk_at "wp")
local macro_rules | `(tactic| walk_at "nx") => `(tactic| (rename Tl _ _ => hr; cases hr))
theorem s_voters_of {v : List Lot} {Q : DL.D → Prop} (q : Q (.int (tot v))) : G_voters_of [vD v] Q := by
  unfold G_voters_of defG ir_voters_of
  refine ⟨rfl, ?_⟩
  walk_at "wp"
  refine wpMap_all lD (fun p => D.int p.2) v (fun p hp k hk => ?_) ?_
  · walk_at "wp"
    exact hk
  · rw [sum_l]
    exact q
def SmallP (p : List Int) : Prop := ∀ x ∈ p, x.natAbs < 18446744073709551616
theorem SmallP.at {p : List Int} (h : SmallP p) (i : Nat) : (p.getD i 0).natAbs < 18446744073709551616 := by
  rw [List.getD_eq_getElem?_getD]
  cases e : p[i]? with
  | none => decide
  | some x => exact h x (List.mem_of_getElem? e)
theorem s_scores_of {n B : Nat} {v : List Lot} (h : VK n B v) (hn : n ≤ 1000) {p : List Int} (hp : p.length = n) (hs : SmallP p) {Q : DL.D → Prop} (q : Q (.tup ((List.range n).map fun a => .int (sc p v a)))) : G_scores_of [iD p, vD v] Q := by
  unfold G_scores_of defG ir_scores_of
  refine ⟨rfl, ?_⟩
  walk_at "wp"
  rw [List.length_map, hp, bop_rep (by omega), rep_tb]
  walk_at "wp"
  refine wpLoop_pre lD (fun pre ρ => ∃ f : Nat → Int, ∃ j3 j4 j5 j6, (∀ a, a < n → f a = sc p pre a) ∧ ρ = [some (iD p), some (vD v), some (.lst ((List.range n).map fun a => D.int (f a))), j3, j4, j5, j6]) v ⟨_, _, _, _, _, fun _ _ => rfl, rfl⟩ (fun pre w post ρ k ev hw hρ hk => ?_) (fun ρ hρ => ?_)
  · obtain ⟨f, j3, j4, j5, j6, hf, rfl⟩ := hρ
    have ho := h.ord w hw
    walk_at "wp"
    refine wpLoop_inv _ _ (fun i ρ => ∃ g : Nat → Int, ∃ j5 j6, (∀ a, a < n → g a = sc p pre a + if w.1.idxOf a < i then w.2 * pt p w.1 a else 0) ∧ ρ = [some (iD p), some (vD v), some (.lst ((List.range n).map fun a => D.int (g a))), some (oD w.1), some (.int w.2), j5, j6]) ⟨_, _, _, fun a ha => ?_, rfl⟩ (fun i x ρ k hx hρ hk => ?_) (fun ρ hρ => ?_)
    · rw [hf a ha, if_neg (by omega)]; omega
    · obtain ⟨g, j5, j6, hg, rfl⟩ := hρ
      obtain ⟨a, i'⟩ := x
      obtain ⟨hx1, hx2⟩ := zipIdx_at hx
      obtain rfl : i = i' := hx2.symm
      have hx1 : w.1[i]? = some a := hx1
      obtain ⟨e1, e2, e3⟩ := ho.idx_at hx1
      walk_at "wp"
      rw [ixD_r e2]
      walk_at "wp"
      rw [ixD_p (by omega)]
      walk_at "wp"
      rw [bop_mul (.inr (hs.at i))]
      walk_at "wp"
      rw [setD_r e2]
      walk_at "wp"
      rw [show ((List.range n).map fun b => if b = a then D.int (g a + w.2 * p.getD i 0) else D.int (g b)) = (List.range n).map fun b => D.int (if b = a then g a + w.2 * p.getD i 0 else g b) from List.map_congr_left fun b _ => by split <;> rfl]
      refine hk _ ⟨_, _, _, fun b hb => ?_, rfl⟩
      by_cases z : b = a
      · subst z
        rw [if_pos rfl, hg b hb, e1, if_neg (Nat.lt_irrefl _), if_pos (Nat.lt_succ_self _)]
        unfold pt
        rw [e1]
        omega
      · have : w.1.idxOf b ≠ w.1.idxOf a := fun y => z (ho.inj hb e2 y)
        rw [if_neg z, hg b hb]
        congr 1
        split <;> split <;> first | rfl | omega
    · obtain ⟨g, j5, j6, hg, rfl⟩ := hρ
      walk_at "wp"
      refine hk _ ⟨_, _, _, _, _, fun a ha => ?_, rfl⟩
      have := ho.pos ha
      rw [hg a ha, if_pos (by rw [List.length_zipIdx, ho.len]; exact this)]
      unfold sc
      rw [vsum_append, vsum_cons, vsum_nil]
      omega
  · obtain ⟨f, j3, j4, j5, j6, hf, rfl⟩ := hρ
    walk_at "wp"
    rw [show ((List.range n).map fun b => D.int (f b)) = (List.range n).map fun b => D.int (sc p v b) from List.map_congr_left fun b hb => by rw [hf b (List.mem_range.mp hb)]]
    exact q
theorem s_point_winners {n B : Nat} {v : List Lot} (h : VK n B v) (h0 : 0 < n) (hn : n ≤ 1000) {p : List Int} (hp : p.length = n) (hs : SmallP p) {Q : DL.D → Prop} (q : Q (.tup ((wins n (sc p v)).map nD))) : G_point_winners [iD p, vD v] Q := by
  unfold G_point_winners defG ir_point_winners
  refine ⟨rfl, ?_⟩
  walk_at "wp"
  refine s_scores_of h hn hp hs ?_
  walk_at "wp"
  refine wpMap_if _ (fun a => decide (sc p v a = mx n (sc p v))) nD _ (fun a ha k h1 h2 => ?_) q
  walk_at "wp"
  rw [max_r (f := sc p v) h0]
  walk_at "wp"
  split
  · rename_i z; exact h1 (by simpa using z)
  · rename_i z; exact h2 (by simpa using z)
theorem s_gathered_votes {v : List Lot} (hv : v.length < 16777216) {Q : DL.D → Prop} (q : Q (vD (asc lo (adds [] v)))) : G_gathered_votes [.lst (v.map lD)] Q := by
  unfold G_gathered_votes defG ir_gathered_votes
  refine ⟨rfl, ?_⟩
  walk_at "wp"
  refine wpLoop_pre lD (fun pre ρ => ∃ u j2 j3, u = adds [] pre ∧ ρ = [some (.lst (v.map lD)), some (kD u), j2, j3]) v ⟨_, _, _, rfl, rfl⟩ (fun pre p post ρ k ev hp hρ hk => ?_) (fun ρ hρ => ?_)
  · obtain ⟨_, j2, j3, rfl, rfl⟩ := hρ
    walk_at "wp"
    rw [get2_k]
    walk_at "wp"
    have hl : (adds [] pre).length < 16777216 := by
      have := adds_length [] pre
      rw [ev] at hv
      simp at hv this
      omega
    rw [setD_k hl]
    walk_at "wp"
    refine hk _ ⟨_, _, _, ?_, rfl⟩
    rw [adds_append]
    rfl
  · obtain ⟨_, j2, j3, rfl, rfl⟩ := hρ
    walk_at "wp"
    rw [items_k, srt_items (KN.adds (u := ([] : List Lot)) List.nodup_nil _)]
    walk_at "wp"
    exact q
theorem s__law_pick {m : Nat} (h0 : 0 < m) (hb : m < 1000000) {Q : DL.D → Prop} (q : ∀ z, z < m → Q (nD z)) : G__law_pick [.src, nD m] Q := by
  unfold G__law_pick defG ir__law_pick
  have key : ∀ z : Int, Q (.int (z % (m : Int))) := fun z => by
    have h1 := Int.emod_nonneg z (show (m : Int) ≠ 0 by omega)
    have h2 := Int.emod_lt_of_pos z (show 0 < (m : Int) by omega)
    have := q (z % (m : Int)).toNat (by omega)
    rw [show nD (z % (m : Int)).toNat = .int (z % (m : Int)) by show D.int _ = _; rw [Int.toNat_of_nonneg h1]] at this
    exact this
  refine ⟨rfl, ?_⟩
  walk_at "wp"
  split
  · exact q 0 h0
  · rename_i hm
    intro z
    walk_at "wp"
    split
    · rw [bop_fdiv (by omega) (by omega)]
      walk_at "wp"
      refine ⟨True.intro, ?_⟩
      rw [bop_mod (by omega)]
      walk_at "wp"
      exact key _
    · intro z1
      walk_at "wp"
      refine ⟨True.intro, ?_⟩
      intro z2
      intro z3
      rw [bop_mul (.inr (by decide))]
      walk_at "wp"
      rw [bop_mod (by decide)]
      walk_at "wp"
      have a1 := Int.emod_nonneg (z2 + z3 * 104729) (show (998244353 : Int) ≠ 0 by decide)
      have a2 := Int.emod_lt_of_pos (z2 + z3 * 104729) (show (0 : Int) < 998244353 by decide)
      rw [bop_mul (.inr (by omega))]
      walk_at "wp"
      intro z4
      rw [bop_mul (.inr (by decide))]
      walk_at "wp"
      generalize (z2 + z3 * 104729) % 998244353 * ((z2 + z3 * 104729) % 998244353) + z4 * 17 = t
      rw [bop_mod (by decide)]
      walk_at "wp"
      have b1 := Int.emod_nonneg t (show (2147483647 : Int) ≠ 0 by decide)
      have b2 := Int.emod_lt_of_pos t (show (0 : Int) < 2147483647 by decide)
      refine ⟨⟨b1, by omega⟩, ?_⟩
      rw [bop_fdiv (by decide) (by decide)]
      walk_at "wp"
      rw [bop_mod (by omega)]
      exact key _
theorem s__law_of {α : Type} {xs : List α} {f : α → DL.D} (h0 : xs ≠ []) (hb : xs.length < 1000000) {Q : DL.D → Prop} (q : ∀ x ∈ xs, Q (f x)) : G__law_of [.src, .lst (xs.map f)] Q := by
  unfold G__law_of defG ir__law_of
  refine ⟨rfl, ?_⟩
  have hl : 0 < xs.length := by
    cases xs with
    | nil => exact (h0 rfl).elim
    | cons x xs => simp
  walk_at "wp"
  rw [List.length_map]
  refine s__law_pick hl hb fun z hz => ?_
  rw [ixD_gl hz]
  exact q _ (List.getElem_mem hz)
theorem s__law_mixed {xs : List Nat} (hb : xs.length ≤ 1000) {Q : DL.D → Prop} (q : ∀ ys : List Nat, ys.Perm xs → Q (.lst (ys.map nD))) : G__law_mixed [.src, .lst (xs.map nD)] Q := by
  unfold G__law_mixed defG ir__law_mixed
  refine ⟨rfl, ?_⟩
  walk_at "wp"
  refine ⟨fun m ρ => ∃ rest found : List Nat, (rest.length = m ∧ (found ++ rest).Perm xs) ∧ ρ = [some .src, some (.lst (xs.map nD)), some (.lst (rest.map nD)), some (.lst (found.map nD))], ⟨_, xs, [], ⟨rfl, .refl _⟩, rfl⟩, fun m ρ hρ => ?_⟩
  obtain ⟨rest, found, ⟨h1, h2⟩, rfl⟩ := hρ
  walk_at "wp"
  rw [show (D.lst []) = .lst (List.map nD []) from rfl, e_nD.lst.cop_ne (by decide)]
  walk_at "wp"
  have hlen := h2.length_eq
  rw [List.length_append] at hlen
  by_cases e : rest = []
  · rw [if_neg (by simp [e])]
    subst e
    rw [List.append_nil] at h2
    exact q _ h2
  · rw [if_pos (by simp [e])]
    have hl : 0 < rest.length := by
      cases rest with
      | nil => exact (e rfl).elim
      | cons x xs => simp
    refine ⟨rfl, rfl, ?_⟩
    rw [List.length_map]
    refine s__law_pick hl (by omega) fun z hz => ?_
    have e1 : popD (.lst (rest.map nD)) (nD z) = some (nD rest[z], .lst ((rest.eraseIdx z).map nD)) := by
      show (if 0 ≤ ((z : Nat) : Int) then ((rest.map nD)[((z : Nat) : Int).toNat]?).map (fun y => (y, D.lst ((rest.map nD).eraseIdx ((z : Nat) : Int).toNat))) else none) = _
      rw [if_pos (by omega), Int.toNat_natCast, List.getElem?_map, List.getElem?_eq_getElem hz]
      rw [map_erase]
      rfl
    rw [e1]
    show Opt (appD (.lst (found.map nD)) (nD rest[z])) _
    have e2 : appD (.lst (found.map nD)) (nD rest[z]) = some (.lst ((found ++ [rest[z]]).map nD)) := by
      show (if _ then _ else _) = _
      rw [if_pos (by rw [List.length_map, size_line]; omega), List.map_append]
      rfl
    rw [e2]
    walk_at "wp"
    refine ⟨_, ?_, rest.eraseIdx z, found ++ [rest[z]], ⟨rfl, ?_⟩, rfl⟩
    · rw [List.length_eraseIdx_of_lt hz]; omega
    · rw [List.append_assoc]
      exact ((pop_perm hz).append_left found).trans h2
theorem vk_asc {n : Nat} {u : List Lot} (h1 : KN u) (h2 : u ≠ []) (h3 : ∀ q ∈ u, IsOrd n q.1) (h4 : ∀ q ∈ u, 0 < q.2) : VK n u.length (asc lo u) := by
  refine ⟨fun e => ?_, asc_up lo_le h1, fun q hq => h3 q (mem_asc.mp hq), fun q hq => h4 q (mem_asc.mp hq), ?_⟩
  · have := (asc_perm lo u).length_eq
    rw [e] at this
    exact h2 (List.length_eq_zero_iff.mp this.symm)
  · rw [(asc_perm lo u).length_eq]; exact Nat.le_refl _
theorem zip_at {α β : Type} {xs : List α} {ys : List β} {i : Nat} {x : α × β} (h : (xs.zip ys)[i]? = some x) : xs[i]? = some x.1 ∧ ys[i]? = some x.2 := List.getElem?_zip_eq_some.mp h
theorem s__law_scores {n B : Nat} {v : List Lot} (h : VK n B v) (hn : n ≤ 1000) {p : List Int} (hp : p.length = n) (hs : SmallP p) {Q : DL.D → Prop} (q : Q (.lst ((List.range n).map fun a => .int (sc p v a)))) : G__law_scores [iD p, vD v] Q := by
  unfold G__law_scores defG ir__law_scores
  refine ⟨rfl, ?_⟩
  walk_at "wp"
  rw [List.length_map, hp, bop_rep (by omega), rep_tb]
  walk_at "wp"
  refine wpLoop_pre lD (fun pre ρ => ∃ f : Nat → Int, ∃ j3 j4 j5 j6, (∀ a, a < n → f a = sc p pre a) ∧ ρ = [some (iD p), some (vD v), some (.lst ((List.range n).map fun a => D.int (f a))), j3, j4, j5, j6]) v ⟨_, _, _, _, _, fun _ _ => rfl, rfl⟩ (fun pre w post ρ k ev hw hρ hk => ?_) (fun ρ hρ => ?_)
  · obtain ⟨f, j3, j4, j5, j6, hf, rfl⟩ := hρ
    have ho := h.ord w hw
    walk_at "wp"
    refine wpLoop_inv _ _ (fun i ρ => ∃ g : Nat → Int, ∃ j5 j6, (∀ a, a < n → g a = sc p pre a + if w.1.idxOf a < i then w.2 * pt p w.1 a else 0) ∧ ρ = [some (iD p), some (vD v), some (.lst ((List.range n).map fun a => D.int (g a))), some (oD w.1), some (.int w.2), j5, j6]) ⟨_, _, _, fun a ha => ?_, rfl⟩ (fun i x ρ k hx hρ hk => ?_) (fun ρ hρ => ?_)
    · rw [hf a ha, if_neg (by omega)]; omega
    · obtain ⟨g, j5, j6, hg, rfl⟩ := hρ
      obtain ⟨y, a⟩ := x
      obtain ⟨hy, hx1⟩ := zip_at hx
      have hx1 : w.1[i]? = some a := hx1
      have hy : p[i]? = some y := hy
      obtain ⟨e1, e2, e3⟩ := ho.idx_at hx1
      have hy2 : y = p.getD i 0 := by rw [List.getD_eq_getElem?_getD, hy]; rfl
      walk_at "wp"
      rw [ixD_r e2]
      walk_at "wp"
      rw [bop_mul (.inr (by rw [hy2]; exact hs.at i))]
      walk_at "wp"
      rw [setD_r e2]
      walk_at "wp"
      rw [show ((List.range n).map fun b => if b = a then D.int (g a + w.2 * y) else D.int (g b)) = (List.range n).map fun b => D.int (if b = a then g a + w.2 * y else g b) from List.map_congr_left fun b _ => by split <;> rfl]
      refine hk _ ⟨_, _, _, fun b hb => ?_, rfl⟩
      by_cases z : b = a
      · subst z
        rw [if_pos rfl, hg b hb, e1, if_neg (Nat.lt_irrefl _), if_pos (Nat.lt_succ_self _)]
        unfold pt
        rw [e1, hy2]
        omega
      · have : w.1.idxOf b ≠ w.1.idxOf a := fun y => z (ho.inj hb e2 y)
        rw [if_neg z, hg b hb]
        congr 1
        split <;> split <;> first | rfl | omega
    · obtain ⟨g, j5, j6, hg, rfl⟩ := hρ
      walk_at "wp"
      refine hk _ ⟨_, _, _, _, _, fun a ha => ?_, rfl⟩
      have := ho.pos ha
      rw [hg a ha, if_pos (by rw [List.length_zip, ho.len, hp, Nat.min_self]; exact this)]
      unfold sc
      rw [vsum_append, vsum_cons, vsum_nil]
      omega
  · obtain ⟨f, j3, j4, j5, j6, hf, rfl⟩ := hρ
    walk_at "wp"
    rw [show ((List.range n).map fun b => D.int (f b)) = (List.range n).map fun b => D.int (sc p v b) from List.map_congr_left fun b hb => by rw [hf b (List.mem_range.mp hb)]]
    exact q
theorem filter_ff {α : Type} (xs : List α) : xs.filter (fun _ => false) = [] := by simp

theorem s_top_count {n B : Nat} {v : List Lot} (h : VK n B v) {a k : Nat} (ha : a < n) {Q : DL.D → Prop} (q : Q (.int (tc v a k))) : G_top_count [vD v, nD a, nD k] Q := by
  unfold G_top_count defG ir_top_count
  refine ⟨rfl, ?_⟩
  walk_at "wp"
  refine wpMap_if lD (fun p => decide (p.1.idxOf a < k)) (fun p => D.int p.2) v (fun p hp K h1 h2 => ?_) ?_
  · walk_at "wp"
    rw [e_nD.mth_t (by decide) ((h.ord p hp).mem.mpr ha)]
    walk_at "wp"
    split
    · rename_i z; exact h1 (by simpa using z)
    · rename_i z; exact h2 (by simpa using z)
  · rw [sum_l, isum_if v (fun o => o.idxOf a < k)]
    exact q
theorem s_top_counts {n B : Nat} {v : List Lot} (h : VK n B v) (h0 : 0 < n) (hn : n ≤ 1000) {Q : DL.D → Prop} (q : Q (.tup ((List.range n).map fun a => .tup ((List.range (n - 1)).map fun j => .int (tc v a (j + 1)))))) : G_top_counts [vD v] Q := by
  unfold G_top_counts defG ir_top_counts
  refine ⟨rfl, ?_⟩
  have hh := h
  obtain ⟨o, m, w, rfl, h1, h2⟩ := h.head
  walk_at "wp"
  rw [List.length_map, h1.len]
  refine ⟨small_nat (by omega), wpMap_all nD (fun a => .tup ((List.range (n - 1)).map fun j => .int (tc ((o, m) :: w) a (j + 1)))) _ (fun a ha k hk => ?_) q⟩
  have ha := List.mem_range.mp ha
  walk_at "wp"
  refine ⟨by unfold smallI; omega, small_nat (by omega), ?_⟩
  rw [range_1n]
  refine wpMap_all _ (fun j => .int (tc ((o, m) :: w) a (j + 1))) _ (fun j hj k hk => ?_) hk
  walk_at "wp"
  exact s_top_count hh ha hk
theorem s_is_ahead_always {n B : Nat} {v : List Lot} (h : VK n B v) (h0 : 0 < n) (hn : n ≤ 1000) {a b : Nat} (ha : a < n) (hb : b < n) {Q : DL.D → Prop} (q : Q (.bl ((List.range (n - 1)).all fun j => decide (tc v a (j + 1) ≤ tc v b (j + 1))))) : G_is_ahead_always [vD v, nD b, nD a] Q := by
  unfold G_is_ahead_always defG ir_is_ahead_always
  refine ⟨rfl, ?_⟩
  walk_at "wp"
  refine s_top_counts h h0 hn ?_
  walk_at "wp"
  rw [ixD_rt hb]
  walk_at "wp"
  rw [ixD_rt ha]
  walk_at "wp"
  rw [zip_same, List.map_map]
  refine wpMap_all _ (fun j => .bl (decide (tc v a (j + 1) ≤ tc v b (j + 1)))) _ (fun j hj k hk => ?_) ?_
  · simp only [Function.comp]
    walk_at "wp"
    exact hk
  · rw [all_l]
    exact q
theorem s_is_above_always {n B : Nat} {v : List Lot} (h : VK n B v) (h0 : 0 < n) (hn : n ≤ 1000) {a b : Nat} (ha : a < n) (hb : b < n) {Q : DL.D → Prop} (q : Q (.bl ((List.range (n - 1)).all fun j => decide (tc v a (j + 1) < tc v b (j + 1))))) : G_is_above_always [vD v, nD b, nD a] Q := by
  unfold G_is_above_always defG ir_is_above_always
  refine ⟨rfl, ?_⟩
  walk_at "wp"
  refine s_top_counts h h0 hn ?_
  walk_at "wp"
  rw [ixD_rt hb]
  walk_at "wp"
  rw [ixD_rt ha]
  walk_at "wp"
  rw [zip_same, List.map_map]
  refine wpMap_all _ (fun j => .bl (decide (tc v a (j + 1) < tc v b (j + 1)))) _ (fun j hj k hk => ?_) ?_
  · simp only [Function.comp]
    walk_at "wp"
    exact hk
  · rw [all_l]
    exact q
def above (n : Nat) (v : List Lot) (b a : Nat) : Bool := (List.range (n - 1)).all fun j => decide (tc v a (j + 1) < tc v b (j + 1))
theorem s_never_winners {n B : Nat} {v : List Lot} (h : VK n B v) (h0 : 0 < n) (hn : n ≤ 1000) {Q : DL.D → Prop} (q : Q (.tup (((List.range n).filter fun a => (List.range n).any fun b => above n v b a).map nD))) : G_never_winners [vD v] Q := by
  unfold G_never_winners defG ir_never_winners
  refine ⟨rfl, ?_⟩
  have hh := h
  obtain ⟨o, m, w, rfl, h1, h2⟩ := h.head
  walk_at "wp"
  rw [List.length_map, h1.len]
  refine ⟨small_nat (by omega), wpMap_if nD (fun a => (List.range n).any fun b => above n ((o, m) :: w) b a) nD _ (fun a ha k h1 h2 => ?_) q⟩
  have ha := List.mem_range.mp ha
  walk_at "wp"
  refine ⟨small_nat (by omega), wpMap_all nD (fun b => .bl (above n ((o, m) :: w) b a)) _ (fun b hb k hk => ?_) ?_⟩
  · walk_at "wp"
    exact s_is_above_always hh h0 hn ha (List.mem_range.mp hb) hk
  · rw [any_l]
    walk_at "wp"
    split
    · rename_i z; exact h1 z
    · rename_i z; exact h2 (by simpa using z)
theorem s_is_thing_lot {n : Nat} {o : List Nat} (h : LotOk n o) {Q : DL.D → Prop} (q : Q (.bl true)) : G_is_thing_lot [nD n, oD o] Q := by
  unfold G_is_thing_lot defG ir_is_thing_lot
  refine ⟨rfl, ?_⟩
  walk_at "wp"
  refine wpMap_all nD (fun _ => .bl true) _ (fun a ha k hk => ?_) ?_
  · have := h.2 a ha
    walk_at "wp"
    rw [if_pos (by omega)]
    walk_at "wp"
    rw [if_pos this]
    walk_at "wp"
    exact hk
  rw [all_l (fun _ => true)]
  walk_at "wp"
  rw [if_neg (by simp), show (1 : Int) = ((1 : Nat) : Int) from rfl, sl_lo_t]
  walk_at "wp"
  refine wpMap_all _ (fun _ => .bl true) _ (fun x hx k hk => ?_) ?_
  · walk_at "wp"
    rw [decide_eq_true (zip_next h.1 x hx)]
    exact hk
  · rw [all_l (fun _ => true)]
    walk_at "wp"
    rw [show ((o.zip (o.drop 1)).all fun _ => true) = true by simp]
    exact q
theorem s_is_like_pair {n : Nat} {p : Lot} (h : LotOk n p.1) (hp : 0 < p.2) {Q : DL.D → Prop} (q : Q (.bl true)) : G_is_like_pair [nD n, lD p] Q := by
  unfold G_is_like_pair defG ir_is_like_pair
  refine ⟨rfl, ?_⟩
  walk_at "wp"
  rw [if_neg (by simp)]
  refine s_is_thing_lot h ?_
  walk_at "wp"
  rw [if_pos hp]
  exact q
theorem s_are_likes {n B : Nat} {v : List Lot} (h : LK n B v) {Q : DL.D → Prop} (q : Q (.bl true)) : G_are_likes [nD n, vD v] Q := by
  unfold G_are_likes defG ir_are_likes
  refine ⟨rfl, ?_⟩
  walk_at "wp"
  refine wpMap_all lD (fun _ => .bl true) _ (fun p hp k hk => ?_) ?_
  · walk_at "wp"
    exact s_is_like_pair (h.lot p hp) (h.pos p hp) hk
  rw [all_l (fun _ => true)]
  walk_at "wp"
  rw [if_neg (by simp), show (1 : Int) = ((1 : Nat) : Int) from rfl, sl_lo_t]
  walk_at "wp"
  refine wpMap_all _ (fun _ => .bl true) _ (fun x hx k hk => ?_) ?_
  · obtain ⟨h1, h2⟩ := zip_next (R := fun p q : Lot => lo p.1 q.1 = true ∧ p.1 ≠ q.1) h.up x hx
    walk_at "wp"
    rw [lt_oD, up_lt h1 h2]
    walk_at "wp"
    exact hk
  · rw [all_l (fun _ => true)]
    walk_at "wp"
    rw [show ((v.zip (v.drop 1)).all fun _ => true) = true by simp]
    exact q
theorem s_like_counts {n : Nat} {v : List Lot} (hn : n ≤ 1000) {Q : DL.D → Prop} (q : Q (.tup ((List.range n).map fun a => .int (lc v a)))) : G_like_counts [nD n, vD v] Q := by
  unfold G_like_counts defG ir_like_counts
  refine ⟨rfl, ?_⟩
  walk_at "wp"
  refine ⟨small_nat (by omega), wpMap_all nD (fun a => .int (lc v a)) _ (fun a ha k hk => ?_) q⟩
  walk_at "wp"
  refine wpMap_if lD (fun p => decide (a ∈ p.1)) (fun p => D.int p.2) v (fun p hp K h1 h2 => ?_) ?_
  · walk_at "wp"
    rw [e_nD.inn_t (by decide)]
    walk_at "wp"
    split
    · rename_i z; exact h1 (by simpa using z)
    · rename_i z; exact h2 (by simpa using z)
  · rw [sum_l, isum_if v (fun o => a ∈ o)]
    exact hk
theorem s_the_liked {n : Nat} {v : List Lot} (h0 : 0 < n) (hn : n ≤ 1000) {Q : DL.D → Prop} (q : Q (oD (wins n (lc v)))) : G_the_liked [nD n, vD v] Q := by
  unfold G_the_liked defG ir_the_liked
  refine ⟨rfl, ?_⟩
  walk_at "wp"
  refine s_like_counts hn ?_
  walk_at "wp"
  refine ⟨small_nat (by omega), wpMap_if nD (fun a => decide (lc v a = mx n (lc v))) nD _ (fun a ha k h1 h2 => ?_) q⟩
  walk_at "wp"
  rw [ixD_rt (List.mem_range.mp ha)]
  walk_at "wp"
  rw [max_r (f := lc v) h0]
  walk_at "wp"
  split
  · rename_i z; exact h1 (by simpa using z)
  · rename_i z; exact h2 (by simpa using z)
theorem gathered_aux {ps : List Lot} (hl : ps.length < 16777216) {x : DL.D} (hx : seqOf x = some (ps.map lD)) {Q : DL.D → Prop} (q : Q (vD (gath lo ps))) : G_gathered [x] Q := by
  unfold G_gathered defG ir_gathered
  refine ⟨rfl, ?_⟩
  walk_at "wp"
  rw [hx]
  refine wpLoop_pre lD (fun pre ρ => ∃ u j2 j3, u = adds [] pre ∧ ρ = [some x, some (kD u), j2, j3]) ps ⟨_, _, _, rfl, rfl⟩ (fun pre p post ρ k ev hp hρ hk => ?_) (fun ρ hρ => ?_)
  · obtain ⟨_, j2, j3, rfl, rfl⟩ := hρ
    walk_at "wp"
    rw [get2_k]
    walk_at "wp"
    have hl' : (adds [] pre).length < 16777216 := by
      have := adds_length [] pre
      rw [ev] at hl
      simp at hl this
      omega
    rw [setD_k hl']
    walk_at "wp"
    refine hk _ ⟨_, _, _, ?_, rfl⟩
    rw [adds_append]
    rfl
  · obtain ⟨_, j2, j3, rfl, rfl⟩ := hρ
    walk_at "wp"
    rw [sorted_k]
    walk_at "wp"
    rw [List.map_map]
    have hk' : KN (adds [] ps) := knil.adds ps
    refine wpMap_if _ (fun p : Lot => decide (0 < p.2)) lD _ (fun p hp k h1 h2 => ?_) q
    simp only [Function.comp]
    walk_at "wp"
    have hg := ixD_k (m := p.2) (aGet_of_mem hk' (mem_asc.mp hp))
    rw [hg]
    walk_at "wp"
    split
    · rename_i z; exact h1 (by simpa using z)
    · rename_i z; exact h2 (by simpa using z)
theorem s_gathered {ps : List Lot} (hl : ps.length < 16777216) {Q : DL.D → Prop} (q : Q (vD (gath lo ps))) : G_gathered [vD ps] Q := gathered_aux hl rfl q
theorem s_gatheredl {ps : List Lot} (hl : ps.length < 16777216) {Q : DL.D → Prop} (q : Q (vD (gath lo ps))) : G_gathered [.lst (ps.map lD)] Q := gathered_aux hl rfl q
theorem s_likes_together {v w : List Lot} (hl : v.length + w.length < 16777216) {Q : DL.D → Prop} (q : Q (vD (gath lo (v ++ w)))) : G_likes_together [vD v, vD w] Q := by
  unfold G_likes_together defG ir_likes_together
  refine ⟨rfl, ?_⟩
  walk_at "wp"
  rw [bop_tup (by simp; omega), ← List.map_append]
  walk_at "wp"
  exact s_gathered (by rw [List.length_append]; exact hl) q
theorem s_likes_times {v : List Lot} (hl : v.length < 16777216) {c : Int} (hc : c.natAbs < 1000000) {Q : DL.D → Prop} (q : Q (vD (gath lo (v.map fun p => (p.1, c * p.2))))) : G_likes_times [vD v, .int c] Q := by
  unfold G_likes_times defG ir_likes_times
  refine ⟨rfl, ?_⟩
  walk_at "wp"
  refine wpMap_all lD (fun p => lD (p.1, c * p.2)) v (fun p hp k hk => ?_) ?_
  · walk_at "wp"
    rw [bop_mul (.inl (by omega))]
    walk_at "wp"
    exact hk
  · rw [show (v.map fun p : Lot => lD (p.1, c * p.2)) = (v.map fun p : Lot => (p.1, c * p.2)).map lD by rw [List.map_map]; rfl]
    exact s_gatheredl (by rw [List.length_map]; exact hl) q
theorem s_lot_left {n : Nat} (hn : n ≤ 1000) {o : List Nat} {Q : DL.D → Prop} (q : Q (oD (comp n o))) : G_lot_left [nD n, oD o] Q := by
  unfold G_lot_left defG ir_lot_left
  refine ⟨rfl, ?_⟩
  walk_at "wp"
  refine ⟨small_nat (by omega), wpMap_if nD (fun a => decide (a ∉ o)) nD _ (fun a ha k h1 h2 => ?_) q⟩
  walk_at "wp"
  rw [e_nD.notin_t (by decide)]
  walk_at "wp"
  split
  · rename_i z; exact h1 (by simpa using z)
  · rename_i z; exact h2 (by simpa using z)
theorem s_turned_likes {n : Nat} (hn : n ≤ 1000) {v : List Lot} (hl : v.length < 16777216) {Q : DL.D → Prop} (q : Q (vD (tnl lo n v))) : G_turned_likes [nD n, vD v] Q := by
  unfold G_turned_likes defG ir_turned_likes
  refine ⟨rfl, ?_⟩
  walk_at "wp"
  refine wpMap_all lD (fun p => lD (comp n p.1, p.2)) v (fun p hp k hk => ?_) ?_
  · walk_at "wp"
    refine s_lot_left hn ?_
    walk_at "wp"
    exact hk
  · rw [show (v.map fun p : Lot => lD (comp n p.1, p.2)) = (v.map fun p : Lot => (comp n p.1, p.2)).map lD by rw [List.map_map]; rfl]
    exact s_gatheredl (by rw [List.length_map]; exact hl) q
theorem s_more_like {v : List Lot} {a b : Nat} {Q : DL.D → Prop} (q : Q (.int (more v a b))) : G_more_like [vD v, nD a, nD b] Q := by
  unfold G_more_like defG ir_more_like
  refine ⟨rfl, ?_⟩
  walk_at "wp"
  refine wpMap_if lD (fun p => decide (a ∈ p.1 ∧ b ∉ p.1)) (fun p => D.int p.2) v (fun p hp K h1 h2 => ?_) ?_
  · walk_at "wp"
    rw [e_nD.inn_t (by decide)]
    walk_at "wp"
    split
    · rename_i z
      rw [e_nD.notin_t (by decide)]
      walk_at "wp"
      split
      · rename_i z2; exact h1 (by simp at z2; simp [z, z2])
      · rename_i z2; exact h2 (by simp at z2; simp [z2])
    · rename_i z; exact h2 (by simp [z])
  · rw [sum_l, isum_if v (fun o => a ∈ o ∧ b ∉ o)]
    exact q
theorem s_like_beats {n : Nat} {v : List Lot} (hn : n ≤ 1000) {Q : DL.D → Prop} (q : Q (tT n fun a b => if lc v b < lc v a then 1 else 0)) : G_like_beats [nD n, vD v] Q := by
  unfold G_like_beats defG ir_like_beats
  refine ⟨rfl, ?_⟩
  walk_at "wp"
  refine ⟨small_nat (by omega), ?_⟩
  refine wpLoop_inv _ _ (fun i ρ => ∃ xs j3, xs = (List.range i).map (fun a => DL.D.tup ((List.range n).map fun b => .int (if lc v b < lc v a then 1 else 0))) ∧ ρ = [some (nD n), some (vD v), some (.lst xs), j3, none]) ⟨_, _, rfl, rfl⟩ (fun i a ρ k ha hρ hk => ?_) (fun ρ hρ => ?_)
  · obtain ⟨_, j3, rfl, rfl⟩ := hρ
    have hi : i < n ∧ a = i := by
      obtain ⟨h1, h2⟩ := List.getElem?_eq_some_iff.mp ha
      rw [List.getElem_range] at h2
      rw [List.length_range] at h1
      exact ⟨h1, h2.symm⟩
    obtain ⟨hi, rfl⟩ := hi
    walk_at "wp"
    refine ⟨rfl, small_nat (by omega), wpMap_all nD (fun b => .int (if lc v b < lc v a then 1 else 0)) _ (fun b hb k hk => ?_) ?_⟩
    · walk_at "wp"
      refine s_more_like ?_
      walk_at "wp"
      refine s_more_like ?_
      walk_at "wp"
      have e : (more v b a < more v a b) = (lc v b < lc v a) := propext (more_lt a b)
      simp only [e]
      exact hk
    · walk_at "wp"
      rw [show appD (.lst ((List.range a).map fun a => DL.D.tup ((List.range n).map fun b => .int (if lc v b < lc v a then 1 else 0)))) (.tup ((List.range n).map fun b => .int (if lc v b < lc v a then 1 else 0))) = some (.lst ((List.range (a + 1)).map fun a => DL.D.tup ((List.range n).map fun b => .int (if lc v b < lc v a then 1 else 0)))) from by
        show (if _ then _ else _) = _
        rw [if_pos (by rw [List.length_map, List.length_range, size_line]; omega), List.range_succ, List.map_append]
        rfl]
      walk_at "wp"
      exact hk _ ⟨_, _, rfl, rfl⟩
  · obtain ⟨_, j3, rfl, rfl⟩ := hρ
    rw [List.length_range]
    walk_at "wp"
    exact q
theorem s_unbeaten {n : Nat} {v : List Lot} (h0 : 0 < n) (hn : n ≤ 1000) {Q : DL.D → Prop} (q : Q (oD (wins n (lc v)))) : G_unbeaten [nD n, vD v] Q := by
  unfold G_unbeaten defG ir_unbeaten
  refine ⟨rfl, ?_⟩
  walk_at "wp"
  refine s_like_beats hn ?_
  walk_at "wp"
  have e : wins n (lc v) = (List.range n).filter fun a => !((List.range n).any fun b => decide (lc v a < lc v b)) := by
    unfold wins
    refine List.filter_congr fun a ha => ?_
    have ha := List.mem_range.mp ha
    rw [Bool.eq_iff_iff]
    simp only [decide_eq_true_eq, Bool.not_eq_true', List.any_eq_false, List.mem_range]
    constructor
    · intro e b hb
      have := le_mx (s := lc v) hb
      omega
    · intro e
      exact (mx_eq ha rfl fun b hb => by have := e b hb; omega).symm
  rw [e] at q
  refine ⟨small_nat (by omega), wpMap_if nD (fun a => !((List.range n).any fun b => decide (lc v a < lc v b))) nD _ (fun a ha k h1 h2 => ?_) q⟩
  walk_at "wp"
  refine wpMap_all _ (fun b => .bl (decide (lc v a < lc v b))) _ (fun b hb k hk => ?_) ?_
  · walk_at "wp"
    rw [ixD_rt (List.mem_range.mp ha)]
    walk_at "wp"
    by_cases z : lc v a < lc v b
    · rw [decide_eq_true z] at hk
      simp only [z, if_true]
      exact hk
    · rw [decide_eq_false z] at hk
      simp only [z, if_false]
      exact hk
  · rw [any_l]
    walk_at "wp"
    split
    · rename_i z; exact h1 z
    · rename_i z; exact h2 (by simpa using z)
theorem s_turned_votes {n B : Nat} {v : List Lot} (h : VK n B v) (hB : B < 16777216) {Q : DL.D → Prop} (q : Q (vD (tnv lo v))) : G_turned_votes [vD v] Q := by
  unfold G_turned_votes defG ir_turned_votes
  refine ⟨rfl, ?_⟩
  walk_at "wp"
  refine wpMap_all lD (fun p => lD (p.1.reverse, p.2)) v (fun p hp k hk => ?_) ?_
  · walk_at "wp"
    exact hk
  · rw [show (v.map fun p : Lot => lD (p.1.reverse, p.2)) = (v.map fun p : Lot => (p.1.reverse, p.2)).map lD by rw [List.map_map]; rfl]
    exact s_gathered_votes (by rw [List.length_map]; have := h.len; omega) q

theorem s__law_votes {n top : Nat} (h0 : 0 < n) (hn : n ≤ 1000) (ht : 0 < top) (hb : top < 1000000) {Q : DL.D → Prop} (q : ∀ v, VK n 8 v → (∀ p ∈ v, p.2 ≤ (top : Int)) → Q (vD v)) : G__law_votes [.src, nD n, nD top] Q := by
  unfold G__law_votes defG ir__law_votes
  refine ⟨rfl, ?_⟩
  walk_at "wp"
  refine s__law_pick (m := 8) (by decide) (by decide) fun z hz => ?_
  walk_at "wp"
  rw [show ((1 : Int) + (z : Int)) = ((1 + z : Nat) : Int) by omega]
  refine ⟨small_nat (by omega), ?_⟩
  rw [range_nD']
  refine wpLoop_inv _ _ (fun i ρ => ∃ u : List Lot, ∃ j4 j5, (KN u ∧ u.length ≤ i ∧ (0 < i → u ≠ []) ∧ (∀ p ∈ u, IsOrd n p.1) ∧ ∀ p ∈ u, 0 < p.2 ∧ p.2 ≤ (top : Int)) ∧ ρ = [some .src, some (nD n), some (nD top), some (kD u), j4, j5]) ⟨[], _, _, ⟨List.nodup_nil, Nat.zero_le _, fun z => by omega, by simp, by simp⟩, rfl⟩ (fun i x ρ k hx hρ hk => ?_) (fun ρ hρ => ?_)
  · obtain ⟨u, j4, j5, ⟨h1, h2, h3, h4, h5⟩, rfl⟩ := hρ
    walk_at "wp"
    refine s__law_pick ht hb fun m hm => ?_
    walk_at "wp"
    refine ⟨small_nat (by omega), ?_⟩
    rw [show sfD .lst (((List.range n).map nD).map unPr) = some (.lst ((List.range n).map nD)) by rw [List.map_map]; rfl]
    walk_at "wp"
    refine s__law_mixed (by rw [List.length_range]; exact hn) fun o ho => ?_
    walk_at "wp"
    have hi : i < 1 + z := by
      rcases Nat.lt_or_ge i (1 + z) with y | y
      · exact y
      · rw [List.getElem?_eq_none (by rw [List.length_range]; exact y)] at hx; cases hx
    rw [setD_k (by omega)]
    walk_at "wp"
    refine hk _ ⟨_, _, _, ⟨h1.put _ _, ?_, fun _ => aPut_ne _ _ _, fun p hp => ?_, fun p hp => ?_⟩, rfl⟩
    · have := aPut_length u o (1 + (m : Int))
      omega
    · rcases mem_aPut hp with e | e
      · rw [e]; exact ho
      · exact h4 p e.1
    · rcases mem_aPut hp with e | e
      · rw [e]; show (0 : Int) < 1 + (m : Int) ∧ 1 + (m : Int) ≤ (top : Int); omega
      · exact h5 p e.1
  · obtain ⟨u, j4, j5, ⟨h1, h2, h3, h4, h5⟩, rfl⟩ := hρ
    rw [List.length_range] at h2 h3
    walk_at "wp"
    rw [sorted_k]
    walk_at "wp"
    rw [List.map_map]
    refine wpMap_all _ lD _ (fun p hp k hk => ?_) ?_
    · simp only [Function.comp]
      walk_at "wp"
      rw [ixD_k (m := p.2) (aGet_of_mem h1 (mem_asc.mp hp))]
      walk_at "wp"
      exact hk
    · walk_at "wp"
      exact q _ ((vk_asc h1 (h3 (by omega)) h4 fun p hp => (h5 p hp).1).mono (by omega)) fun p hp => (h5 p (mem_asc.mp hp)).2
theorem s__law_likes {n B : Nat} {v : List Lot} (h : VK n B v) (hB : B < 16777216) {k : Nat} {Q : DL.D → Prop} (q : Q (vD (lk lo k v))) : G__law_likes [vD v, nD k] Q := by
  unfold G__law_likes defG ir__law_likes
  refine ⟨rfl, ?_⟩
  walk_at "wp"
  refine wpLoop_pre lD (fun pre ρ => ∃ u j3 j4 j5, u = adds [] (pre.map fun q => (topk k q.1, q.2)) ∧ ρ = [some (vD v), some (nD k), some (kD u), j3, j4, j5]) v ⟨_, _, _, _, rfl, rfl⟩ (fun pre p post ρ K ev hp hρ hk => ?_) (fun ρ hρ => ?_)
  · obtain ⟨_, j3, j4, j5, rfl, rfl⟩ := hρ
    walk_at "wp"
    rw [sl_hi_t]
    walk_at "wp"
    rw [sorted_topk]
    walk_at "wp"
    rw [get2_k]
    walk_at "wp"
    have hl' : (adds [] (pre.map fun q => (topk k q.1, q.2))).length < 16777216 := by
      have h1 := adds_length [] (pre.map fun q => (topk k q.1, q.2))
      have h2 := h.len
      rw [ev] at h2
      simp at h1 h2
      omega
    rw [setD_k hl']
    walk_at "wp"
    refine hk _ ⟨_, _, _, _, ?_, rfl⟩
    rw [List.map_append, adds_append]
    rfl
  · obtain ⟨_, j3, j4, j5, rfl, rfl⟩ := hρ
    walk_at "wp"
    rw [sorted_k]
    walk_at "wp"
    rw [List.map_map]
    refine wpMap_all _ lD _ (fun p hp K hk => ?_) ?_
    · simp only [Function.comp]
      walk_at "wp"
      rw [ixD_k (m := p.2) (aGet_of_mem (knil.adds _) (mem_asc.mp hp))]
      walk_at "wp"
      exact hk
    · have e : lk lo k v = asc lo (adds [] (v.map fun q => (topk k q.1, q.2))) := gath_pos fun q hq => by
        obtain ⟨q', hq', rfl⟩ := List.mem_map.mp hq
        exact h.pos q' hq'
      rw [e] at q
      exact q
theorem s__law_counts {n : Nat} {v : List Lot} (hn : n ≤ 1000) {Q : DL.D → Prop} (q : Q (.lst ((List.range n).map fun a => .int (lc v a)))) : G__law_counts [nD n, vD v] Q := by
  unfold G__law_counts defG ir__law_counts
  refine ⟨rfl, ?_⟩
  walk_at "wp"
  refine ⟨small_nat (by omega), wpMap_all nD (fun a => .int (lc v a)) _ (fun a ha k hk => ?_) q⟩
  walk_at "wp"
  refine wpMap_if lD (fun p => decide (a ∈ p.1)) (fun p => D.int p.2) v (fun p hp K h1 h2 => ?_) ?_
  · walk_at "wp"
    rw [e_nD.inn_t (by decide)]
    walk_at "wp"
    split
    · rename_i z; exact h1 (by simpa using z)
    · rename_i z; exact h2 (by simpa using z)
  · rw [sum_l, isum_if v (fun o => a ∈ o)]
    exact hk
def ones (n k : Nat) : List Int := List.replicate k 1 ++ List.replicate (n - k) 0
theorem ones_len {n k : Nat} (h : k ≤ n) : (ones n k).length = n := by unfold ones; simp; omega
theorem ones_small (n k : Nat) : SmallP (ones n k) := fun x hx => by
  unfold ones at hx
  rcases List.mem_append.mp hx with z | z
  · rw [(List.mem_replicate.mp z).2]; decide
  · rw [(List.mem_replicate.mp z).2]; decide
theorem ones_at {n k i : Nat} (h : k ≤ n) (hi : i < n) : (ones n k).getD i 0 = if i < k then 1 else 0 := by
  unfold ones
  rw [List.getD_eq_getElem?_getD]
  by_cases e : i < k
  · rw [if_pos e, List.getElem?_append_left (by simpa using e), List.getElem?_replicate, if_pos e]; rfl
  · rw [if_neg e, List.getElem?_append_right (by simpa using e), List.getElem?_replicate, if_pos (by rw [List.length_replicate]; omega)]; rfl
theorem sc_ones {n B : Nat} {v : List Lot} (h : VK n B v) {k : Nat} (hk : k ≤ n) {a : Nat} (ha : a < n) : sc (ones n k) v a = tc v a k := by
  unfold sc tc
  exact vsum_congr fun p hp => ones_at hk ((h.ord p hp).pos ha)
theorem s__law_row_right {n : Nat} {v : List Lot} (h : VK n 8 v) (h0 : 2 ≤ n) (hn : n ≤ 1000) {k : Nat} (hk0 : 1 ≤ k) (hk : k ≤ n) {Q : DL.D → Prop} (q : Q (.bl true)) : G__law_row_right [nD n, vD v, nD k, .lst ((List.range n).map fun a => .lst ((List.range (n - 1)).map fun j => .int (tc v a (j + 1))))] Q := by
  unfold G__law_row_right defG ir__law_row_right
  refine ⟨rfl, ?_⟩
  have n0 : 0 < n := by omega
  have hL := lk_ok lo_le h k
  have hlen : ∀ {B : Nat} {w : List Lot}, LK n B w → B ≤ 8 → w.length < 16777216 := fun hw hb => by have := hw.len; omega
  walk_at "st"
  refine s__law_likes h (by decide) ?_
  walk_at "wp"
  refine s_voters_of ?_
  walk_at "wp"
  walk_at "nx"
  walk_at "st"
  refine s__law_counts hn ?_
  walk_at "wp"
  walk_at "nx"
  walk_at "st"
  refine s_are_likes hL ?_
  rw [show copD .isnot (.bl true) (.bl true) = some false from rfl]
  walk_at "wp"
  refine s_like_counts hn ?_
  walk_at "wp"
  rw [ne_rows fun _ _ => rfl]
  walk_at "wp"
  walk_at "nx"
  walk_at "st"
  refine if_first (fun hlt rest => ?_) ?_
  · refine wpMap_all _ (fun a => .int (tc v a k)) _ (fun a ha K hK => ?_) ?_
    · walk_at "wp"
      rw [show ((k : Int) - 1) = ((k - 1 : Nat) : Int) by omega, ixD_r (show k - 1 < n - 1 by omega), show k - 1 + 1 = k by omega]
      walk_at "wp"
      exact hK
    rw [ne_rows fun a ha => lc_lk h ha k]
    walk_at "wp"
    exact rest
  refine if_first (fun heq rest => ?_) ?_
  · rw [bop_rep (by omega), rep_tb]
    walk_at "wp"
    rw [ne_rows fun a ha => (lc_lk h ha k).trans (tc_all h ha (by omega))]
    walk_at "wp"
    exact rest
  walk_at "nx"
  walk_at "st"
  refine ⟨small_nat (by omega), wpMap_if nD (fun a => decide (lc (lk lo k v) a = mx n (lc (lk lo k v)))) nD _ (fun a ha K h1 h2 => ?_) ?_⟩
  · walk_at "wp"
    rw [ixD_r (List.mem_range.mp ha)]
    walk_at "wp"
    rw [max_r (f := lc (lk lo k v)) n0]
    walk_at "wp"
    split
    · rename_i z; exact h1 (by simpa using z)
    · rename_i z; exact h2 (by simpa using z)
  rw [show (List.range n).filter (fun a => decide (lc (lk lo k v) a = mx n (lc (lk lo k v)))) = wins n (lc (lk lo k v)) from rfl]
  walk_at "wp"
  walk_at "nx"
  walk_at "st"
  refine s_the_liked n0 hn ?_
  rw [e_oD.cop_ne (by decide)]
  walk_at "wp"
  rw [if_neg (by simp)]
  refine s_unbeaten n0 hn ?_
  rw [e_oD.cop_ne (by decide)]
  walk_at "wp"
  rw [if_neg (by simp)]
  walk_at "nx"
  refine seq_step fun r hr => ?_
  walk_at "wp"
  have fin : ∀ x10, wpSs g__law_counts r [some (nD n), some (vD v), some (nD k), some (.lst ((List.range n).map fun a => .lst ((List.range (n - 1)).map fun j => .int (tc v a (j + 1))))), some (vD (lk lo k v)), some (.int (tot v)), some (.lst ((List.range n).map fun a => .int (lc (lk lo k v) a))), none, some (oD (wins n (lc (lk lo k v)))), none, x10, none, none, none, none] ⟨fun _ => Q .non, Q, fun _ => False, fun _ => False⟩ := fun x10 => by
    cases hr
    walk_at "st"
    refine ⟨small_nat (by omega), wpMap_all nD (fun a => .tup ((List.range n).map fun b => .int (if lc (lk lo k v) b < lc (lk lo k v) a then 1 else 0))) _ (fun a ha K hK => ?_) ?_⟩
    · walk_at "wp"
      refine ⟨small_nat (by omega), wpMap_all nD (fun b => .int (if lc (lk lo k v) b < lc (lk lo k v) a then 1 else 0)) _ (fun b hb K hK => ?_) hK⟩
      walk_at "wp"
      rw [ixD_r (List.mem_range.mp ha)]
      walk_at "wp"
      rw [ixD_r (List.mem_range.mp hb)]
      walk_at "wp"
      exact hK
    walk_at "wp"
    walk_at "nx"
    walk_at "st"
    refine s_like_beats hn ?_
    rw [ne_tbl fun _ _ _ _ => rfl]
    walk_at "wp"
    walk_at "nx"
    walk_at "st"
    refine s_turned_likes hn (hlen hL (by decide)) ?_
    walk_at "wp"
    walk_at "nx"
    walk_at "st"
    refine s_like_counts hn ?_
    walk_at "wp"
    refine wpMap_all _ (fun a => .int (tot v - lc (lk lo k v) a)) _ (fun a ha K hK => ?_) ?_
    · walk_at "wp"
      exact hK
    have etot : tot (lk lo k v) = tot v := by rw [tot_eq, tot_eq, vsum_lk h.pos0]
    rw [ne_rows fun a ha => by rw [lc_tnl hL.pos0 ha, etot]]
    walk_at "wp"
    walk_at "nx"
    walk_at "st"
    split
    · exact q
    · refine s_turned_votes h (by decide) ?_
      walk_at "wp"
      rw [show ((n : Int) - (k : Int)) = ((n - k : Nat) : Int) by omega]
      refine s__law_likes (tnv_ok lo_le h) (by decide) ?_
      walk_at "wp"
      rw [turned_lk lo_le lo_anti h hk, e_vD.cop_eq (by decide)]
      walk_at "wp"
      simpa using q
  split
  rotate_left
  · exact fin _
  · rw [bop_rept (by omega)]
    walk_at "wp"
    rw [show ((n : Int) - (k : Int)) = ((n - k : Nat) : Int) by omega, bop_rept (by omega)]
    walk_at "wp"
    rw [bop_tup (by simp; omega)]
    walk_at "wp"
    rw [show D.tup (List.replicate k (.int 1) ++ List.replicate (n - k) (.int 0)) = iD (ones n k) by unfold ones; show _ = D.tup _; rw [List.map_append, List.map_replicate, List.map_replicate]]
    refine s_point_winners h n0 hn (ones_len hk) (ones_small n k) ?_
    walk_at "wp"
    have e : wins n (sc (ones n k) v) = wins n (lc (lk lo k v)) := wins_congr n0 fun a ha => (sc_ones h hk ha).trans (lc_lk h ha k).symm
    rw [e, e_oD.cop_ne (by decide)]
    walk_at "wp"
    rw [if_neg (by simp)]
    refine s_scores_of h hn (ones_len hk) (ones_small n k) ?_
    walk_at "wp"
    rw [ne_rows fun a ha => (sc_ones h hk ha).trans (lc_lk h ha k).symm]
    walk_at "wp"
    exact fin _

theorem s__law_scoresl {n B : Nat} {v : List Lot} (h : VK n B v) (hn : n ≤ 1000) {p : List Int} (hp : p.length = n) (hs : SmallP p) {Q : DL.D → Prop} (q : Q (.lst ((List.range n).map fun a => .int (sc p v a)))) : G__law_scores [.lst (p.map DL.D.int), vD v] Q := by
  unfold G__law_scores defG ir__law_scores
  refine ⟨rfl, ?_⟩
  walk_at "wp"
  rw [List.length_map, hp, bop_rep (by omega), rep_tb]
  walk_at "wp"
  refine wpLoop_pre lD (fun pre ρ => ∃ f : Nat → Int, ∃ j3 j4 j5 j6, (∀ a, a < n → f a = sc p pre a) ∧ ρ = [some (.lst (p.map DL.D.int)), some (vD v), some (.lst ((List.range n).map fun a => D.int (f a))), j3, j4, j5, j6]) v ⟨_, _, _, _, _, fun _ _ => rfl, rfl⟩ (fun pre w post ρ k ev hw hρ hk => ?_) (fun ρ hρ => ?_)
  · obtain ⟨f, j3, j4, j5, j6, hf, rfl⟩ := hρ
    have ho := h.ord w hw
    walk_at "wp"
    refine wpLoop_inv _ _ (fun i ρ => ∃ g : Nat → Int, ∃ j5 j6, (∀ a, a < n → g a = sc p pre a + if w.1.idxOf a < i then w.2 * pt p w.1 a else 0) ∧ ρ = [some (.lst (p.map DL.D.int)), some (vD v), some (.lst ((List.range n).map fun a => D.int (g a))), some (oD w.1), some (.int w.2), j5, j6]) ⟨_, _, _, fun a ha => ?_, rfl⟩ (fun i x ρ k hx hρ hk => ?_) (fun ρ hρ => ?_)
    · rw [hf a ha, if_neg (by omega)]; omega
    · obtain ⟨g, j5, j6, hg, rfl⟩ := hρ
      obtain ⟨y, a⟩ := x
      obtain ⟨hy, hx1⟩ := zip_at hx
      have hx1 : w.1[i]? = some a := hx1
      have hy : p[i]? = some y := hy
      obtain ⟨e1, e2, e3⟩ := ho.idx_at hx1
      have hy2 : y = p.getD i 0 := by rw [List.getD_eq_getElem?_getD, hy]; rfl
      walk_at "wp"
      rw [ixD_r e2]
      walk_at "wp"
      rw [bop_mul (.inr (by rw [hy2]; exact hs.at i))]
      walk_at "wp"
      rw [setD_r e2]
      walk_at "wp"
      rw [show ((List.range n).map fun b => if b = a then D.int (g a + w.2 * y) else D.int (g b)) = (List.range n).map fun b => D.int (if b = a then g a + w.2 * y else g b) from List.map_congr_left fun b _ => by split <;> rfl]
      refine hk _ ⟨_, _, _, fun b hb => ?_, rfl⟩
      by_cases z : b = a
      · subst z
        rw [if_pos rfl, hg b hb, e1, if_neg (Nat.lt_irrefl _), if_pos (Nat.lt_succ_self _)]
        unfold pt
        rw [e1, hy2]
        omega
      · have : w.1.idxOf b ≠ w.1.idxOf a := fun y => z (ho.inj hb e2 y)
        rw [if_neg z, hg b hb]
        congr 1
        split <;> split <;> first | rfl | omega
    · obtain ⟨g, j5, j6, hg, rfl⟩ := hρ
      walk_at "wp"
      refine hk _ ⟨_, _, _, _, _, fun a ha => ?_, rfl⟩
      have := ho.pos ha
      rw [hg a ha, if_pos (by rw [List.length_zip, ho.len, hp, Nat.min_self]; exact this)]
      unfold sc
      rw [vsum_append, vsum_cons, vsum_nil]
      omega
  · obtain ⟨f, j3, j4, j5, j6, hf, rfl⟩ := hρ
    walk_at "wp"
    rw [show ((List.range n).map fun b => D.int (f b)) = (List.range n).map fun b => D.int (sc p v b) from List.map_congr_left fun b hb => by rw [hf b (List.mem_range.mp hb)]]
    exact q
theorem s_steps_of_counts {n : Nat} {c : Nat → Int} (h0 : 0 < n) (hn : n ≤ 1000) (hc : ∀ a, a < n → 0 ≤ c a ∧ c a < 900000) {Q : DL.D → Prop} (q : ∀ lw hi, 0 ≤ lw → (∀ a, a < n → lw ≤ c a) → (∀ a, a < n → c a ≤ hi) → Q (vD (gath lo (stepsP n c lw hi)))) : G_steps_of_counts [.tup ((List.range n).map fun a => .int (c a))] Q := by
  unfold G_steps_of_counts defG ir_steps_of_counts
  refine ⟨rfl, ?_⟩
  have hne : (List.range n).map c ≠ [] := fun e => by rw [List.map_eq_nil_iff, List.range_eq_nil] at e; omega
  have hne' : List.range n ≠ [] := fun e => by rw [List.range_eq_nil] at e; omega
  obtain ⟨m1, m2⟩ := minI_spec hne
  have q1 : ∀ a, a < n → minI ((List.range n).map c) ≤ c a := fun a ha => m2 _ (List.mem_map.mpr ⟨a, List.mem_range.mpr ha, rfl⟩)
  have q0 : 0 ≤ minI ((List.range n).map c) ∧ minI ((List.range n).map c) < 900000 := by
    obtain ⟨a, ha, e⟩ := List.mem_map.mp m1
    have := hc a (List.mem_range.mp ha)
    omega
  have q2 : ∀ a, a < n → c a ≤ mx n c := fun a ha => le_mx ha
  have q3 : 0 ≤ mx n c ∧ mx n c < 900000 := by
    obtain ⟨a, ha, e⟩ := mx_at c h0
    have := hc a ha
    omega
  have emin := min_m (f := c) hne'
  revert emin q0 q1
  generalize minI ((List.range n).map c) = lw
  intro q1 q0 emin
  walk_at "wp"
  rw [List.length_map, List.length_range]
  refine ⟨small_nat (by omega), ?_⟩
  rw [show sfD .tup (((List.range n).map nD).map unPr) = some (.tup ((List.range n).map nD)) by rw [List.map_map]; rfl]
  walk_at "wp"
  rw [emin]
  walk_at "wp"
  rw [max_r (f := c) h0]
  walk_at "wp"
  refine ⟨by unfold smallI; omega, by unfold smallI; omega, ?_⟩
  rw [show (mx n c + 1 - (lw + 1)).toNat = (mx n c - lw).toNat by omega]
  unfold rangeD
  refine wpLoop_inv _ _ (fun i ρ => ∃ ps j2, (ps = (List.range n, lw) :: (List.range i).map fun (j : Nat) => ((List.range n).filter fun a => decide (lw + 1 + (j : Int) ≤ c a), (1 : Int))) ∧ ρ = [some (.tup ((List.range n).map fun a => .int (c a))), some (.lst (ps.map lD)), j2, none, none]) ⟨_, _, rfl, rfl⟩ (fun i x ρ k hx hρ hk => ?_) (fun ρ hρ => ?_)
  · obtain ⟨_, j2, rfl, rfl⟩ := hρ
    have hi : i < (mx n c - lw).toNat ∧ x = i := by
      obtain ⟨z1, z2⟩ := List.getElem?_eq_some_iff.mp hx
      rw [List.getElem_range] at z2
      rw [List.length_range] at z1
      exact ⟨z1, z2.symm⟩
    obtain ⟨hi, rfl⟩ := hi
    walk_at "wp"
    refine ⟨rfl, ?_⟩
    refine wpMap_if _ (fun a => decide (lw + 1 + (x : Int) ≤ c a)) nD _ (fun a ha K h1 h2 => ?_) ?_
    · walk_at "wp"
      rw [Int.mul_one]
      split
      · rename_i z; exact h1 (by simpa using z)
      · rename_i z; exact h2 (by simpa using z)
    walk_at "wp"
    rw [show appD (.lst (lD (List.range n, lw) :: ((List.range x).map fun (j : Nat) => ((List.range n).filter fun a => decide (lw + 1 + (j : Int) ≤ c a), (1 : Int))).map lD)) (.tup [.tup (((List.range n).filter fun a => decide (lw + 1 + (x : Int) ≤ c a)).map nD), .int 1]) = some (.lst (((List.range n, lw) :: (List.range (x + 1)).map fun (j : Nat) => ((List.range n).filter fun a => decide (lw + 1 + (j : Int) ≤ c a), (1 : Int))).map lD)) from by
      show (if _ then _ else _) = _
      rw [if_pos (by simp [size_line]; omega), List.range_succ, List.map_append, List.map_cons, List.map_append]
      rfl]
    walk_at "wp"
    exact hk _ ⟨_, _, rfl, rfl⟩
  · obtain ⟨_, j2, rfl, rfl⟩ := hρ
    walk_at "wp"
    rw [List.length_range]
    exact s_gatheredl (ps := stepsP n c lw (mx n c)) (by unfold stepsP; simp; omega) (q lw (mx n c) q0.1 q1 q2)

theorem nats_of : ∀ {ds : List DL.D} {b : Nat}, (∀ d ∈ ds, ∃ z : Nat, d = nD z ∧ z < b) → ∃ xs : List Nat, ds = xs.map nD ∧ ∀ x ∈ xs, x < b
  | [], _, _ => ⟨[], rfl, by simp⟩
  | d :: ds, b, h => by
    obtain ⟨z, rfl, hz⟩ := h d List.mem_cons_self
    obtain ⟨xs, rfl, hx⟩ := nats_of (fun e he => h e (List.mem_cons_of_mem _ he))
    exact ⟨z :: xs, rfl, fun x hx' => by
      rcases List.mem_cons.mp hx' with e | e
      · rw [e]; exact hz
      · exact hx x e⟩
theorem getD_map {xs : List Nat} {i : Nat} : (((xs.getD i 0 : Nat) : Int)) = (xs.map fun z : Nat => (z : Int)).getD i 0 := by
  rw [List.getD_eq_getElem?_getD, List.getD_eq_getElem?_getD, List.getElem?_map]
  cases xs[i]? <;> rfl
theorem ixD_nl {st : List Nat} {i : Nat} (h : i < st.length) : ixD (.lst (st.map nD)) (.int (i : Int)) = some (nD (st.getD i 0)) := by
  rw [ixD_gl h, getD_at 0 h]
theorem s__law_points_right {n : Nat} {v : List Lot} (h : VK n 8 v) (h0 : 2 ≤ n) (hn : n ≤ 100) {tops : DL.D} (htops : tops = .lst ((List.range n).map fun a => .lst ((List.range (n - 1)).map fun j => .int (tc v a (j + 1))))) {Q : DL.D → Prop} (q : Q (.bl true)) : G__law_points_right [.src, nD n, vD v, tops] Q := by
  unfold G__law_points_right defG ir__law_points_right
  refine ⟨rfl, ?_⟩
  have n0 : 0 < n := by omega
  have en1 : ((n : Int) - 1) = ((n - 1 : Nat) : Int) := by omega
  walk_at "st"
  rw [en1]
  refine ⟨small_nat (by omega), ?_⟩
  rw [range_nD']
  refine wpMap_any nD (fun d => ∃ z : Nat, d = nD z ∧ z < 4) _ (fun x hx k hk => ?_) (fun ds h1 h2 => ?_)
  · walk_at "wp"
    exact s__law_pick (m := 4) (by decide) (by decide) fun z hz => hk _ ⟨z, rfl, hz⟩
  obtain ⟨st, rfl, hst⟩ := nats_of h2
  rw [List.length_map, List.length_range] at h1
  walk_at "wp"
  walk_at "nx"
  walk_at "st"
  rw [sum_l (fun z : Nat => (z : Int))]
  walk_at "wp"
  split
  · exact q
  rename_i hsum
  obtain ⟨j0, hj0, hs0⟩ : ∃ j, j < n - 1 ∧ 0 < st.getD j 0 := by
    rcases Classical.em (∃ j, j < n - 1 ∧ 0 < st.getD j 0) with z | z
    · exact z
    · exfalso
      refine hsum ?_
      have := isum_drop st (n - 1) h1 0
      rw [List.drop_zero] at this
      rw [this]
      refine isum_zero fun j hj => ?_
      have hj := List.mem_range.mp hj
      have : st.getD j 0 = 0 := by
        rcases Nat.eq_zero_or_pos (st.getD j 0) with y | y
        · exact y
        · exact absurd ⟨j, hj, y⟩ z
      rw [this]
      split <;> rfl
  walk_at "nx"
  walk_at "st"
  refine ⟨small_nat (by omega), wpMap_all nD (fun k => .int (isum (st.drop k) fun z : Nat => (z : Int))) _ (fun k hk K hK => ?_) ?_⟩
  · walk_at "wp"
    rw [sl_lo_l]
    walk_at "wp"
    rw [sum_l (fun z : Nat => (z : Int))]
    exact hK
  have hP : ((List.range n).map fun k => D.int (isum (st.drop k) fun z : Nat => (z : Int))) = ((List.range n).map fun k => isum (st.drop k) fun z : Nat => (z : Int)).map D.int := by rw [List.map_map]; rfl
  rw [hP]
  have hPl : ((List.range n).map fun k => isum (st.drop k) fun z : Nat => (z : Int)).length = n := by simp
  have hPa : ∀ i, i < n → ((List.range n).map fun k => isum (st.drop k) fun z : Nat => (z : Int)).getD i 0 = isum (List.range (n - 1)) fun j => if i ≤ j then ((st.getD j 0 : Nat) : Int) else 0 := fun i hi => by
    rw [getD_at 0 (by simpa using hi), List.getElem_map, List.getElem_range]
    exact isum_drop st (n - 1) h1 i
  have hPs : SmallP ((List.range n).map fun k => isum (st.drop k) fun z : Nat => (z : Int)) := fun x hx => by
    obtain ⟨k, _, rfl⟩ := List.mem_map.mp hx
    have h3 : 0 ≤ isum (st.drop k) fun z : Nat => (z : Int) := isum_nonneg fun z _ => by omega
    have h4 : isum (st.drop k) (fun z : Nat => (z : Int)) ≤ isum (st.drop k) fun _ => (4 : Int) := isum_le fun z hz => by
      have := hst z (List.mem_of_mem_drop hz)
      omega
    rw [isum_const, List.length_drop] at h4
    omega
  revert hPl hPa hPs
  generalize ((List.range n).map fun k => isum (st.drop k) fun z : Nat => (z : Int)) = p
  intro hPl hPa hPs
  walk_at "wp"
  walk_at "nx"
  walk_at "st"
  refine ⟨by unfold smallI; omega, small_nat (by omega), ?_⟩
  rw [range_1n]
  have hlk : ∀ i, LK n 8 (lk lo (i + 1) v) := fun i => lk_ok lo_le h (i + 1)
  refine wpLoop_inv _ _ (fun i ρ => ∃ u j5 j9 j10, u = adds [] (dl lo v st i) ∧ ρ = [some .src, some (nD n), some (vD v), some tops, some (.lst (st.map nD)), j5, some (.lst (p.map DL.D.int)), some (.tup []), some (kD u), j9, j10, none, none, none, none, none]) ⟨[], _, _, _, rfl, rfl⟩ (fun i x ρ k hx hρ hk => ?_) (fun ρ hρ => ?_)
  · obtain ⟨_, j5, j9, j10, rfl, rfl⟩ := hρ
    have hi : i < n - 1 ∧ x = i := by
      obtain ⟨z1, z2⟩ := List.getElem?_eq_some_iff.mp hx
      rw [List.getElem_range] at z2
      rw [List.length_range] at z1
      exact ⟨z1, z2.symm⟩
    obtain ⟨hi, rfl⟩ := hi
    have e1 : (((x + 1 : Nat) : Int) - 1) = (x : Int) := by omega
    have hlt : st.getD x 0 < 4 := by
      rw [getD_at 0 (by omega)]
      exact hst _ (List.getElem_mem _)
    walk_at "wp"
    rw [e1, ixD_nl (by omega)]
    walk_at "wp"
    split
    · rename_i hs
      have hs : 0 < st.getD x 0 := by omega
      refine s__law_likes h (by decide) ?_
      walk_at "wp"
      refine wpLoop_pre lD (fun pre ρ => ∃ u j9 j10, u = adds (adds [] (dl lo v st x)) (pre.map fun p => (p.1, p.2 * ((st.getD x 0 : Nat) : Int))) ∧ ρ = [some .src, some (nD n), some (vD v), some tops, some (.lst (st.map nD)), some (nD (x + 1)), some (.lst (p.map DL.D.int)), some (.tup []), some (kD u), j9, j10, none, none, none, none, none]) _ ⟨_, _, _, rfl, rfl⟩ (fun pre w post ρ k ev hw hρ hk => ?_) (fun ρ hρ => ?_)
      · obtain ⟨_, j9, j10, rfl, rfl⟩ := hρ
        have hl' : (adds (adds [] (dl lo v st x)) (pre.map fun p => (p.1, p.2 * ((st.getD x 0 : Nat) : Int)))).length < 16777216 := by
          have z1 := adds_length (adds [] (dl lo v st x)) (pre.map fun p => (p.1, p.2 * ((st.getD x 0 : Nat) : Int)))
          have z2 := adds_length [] (dl lo v st x)
          have z3 := dl_len lo_le h st x
          have z4 := (hlk x).len
          rw [ev] at z4
          rw [List.length_map] at z1
          rw [List.length_nil] at z2
          simp at z4
          omega
        walk_at "wp"
        rw [get2_k]
        walk_at "wp"
        rw [e1, ixD_nl (by omega)]
        walk_at "wp"
        rw [bop_mul (.inr (by omega))]
        walk_at "wp"
        rw [setD_k hl']
        walk_at "wp"
        refine hk _ ⟨_, _, _, ?_, rfl⟩
        rw [List.map_append, adds_append]
        rfl
      · obtain ⟨_, j9, j10, rfl, rfl⟩ := hρ
        refine hk _ ⟨_, _, _, _, ?_, rfl⟩
        rw [dl_succ, if_pos hs, adds_append]
    · rename_i hs
      simp only [wpLoop]
      refine hk _ ⟨_, _, _, _, ?_, rfl⟩
      rw [dl_succ, if_neg (by omega), List.append_nil]
  obtain ⟨u, j5, j9, j10, hu, rfl⟩ := hρ
  rw [List.length_range] at hu
  have hun : KN u := by rw [hu]; exact knil.adds _
  have hune : u ≠ [] := by rw [hu]; exact adds_ne (.inr (dl_ne h hj0 hs0))
  walk_at "nx"
  walk_at "st"
  rw [len_dT]
  walk_at "wp"
  split
  · exact q
  rw [keysT_k, List.map_map]
  refine wpMap_all _ (fun w : Lot => .int w.2) _ (fun w hw k hk => ?_) ?_
  · simp only [Function.comp]
    walk_at "wp"
    rw [ixD_k (m := w.2) (aGet_of_mem hun hw)]
    walk_at "wp"
    exact hk
  rw [max_m hune]
  walk_at "wp"
  split
  · exact q
  walk_at "nx"
  walk_at "st"
  refine ⟨by unfold smallI; omega, small_nat (by omega), ?_⟩
  rw [range_1n]
  refine wpLoop_inv _ _ (fun i ρ => ∃ w j5, (LK n (8 * i) w ∧ ∀ f : List Nat → Int, vsum w f = isum (List.range i) fun j => ((st.getD j 0 : Nat) : Int) * vsum (lk lo (j + 1) v) f) ∧ ρ = [some .src, some (nD n), some (vD v), some tops, some (.lst (st.map nD)), j5, some (.lst (p.map DL.D.int)), some (vD w), some (kD u), j9, j10, none, none, none, none, none]) ⟨[], _, ⟨LOk.nil, fun f => rfl⟩, rfl⟩ (fun i x ρ k hx hρ hk => ?_) (fun ρ hρ => ?_)
  · obtain ⟨w, j5, ⟨hw1, hw2⟩, rfl⟩ := hρ
    have hi : i < n - 1 ∧ x = i := by
      obtain ⟨z1, z2⟩ := List.getElem?_eq_some_iff.mp hx
      rw [List.getElem_range] at z2
      rw [List.length_range] at z1
      exact ⟨z1, z2.symm⟩
    obtain ⟨hi, rfl⟩ := hi
    have e1 : (((x + 1 : Nat) : Int) - 1) = (x : Int) := by omega
    have hlt : st.getD x 0 < 4 := by
      rw [getD_at 0 (by omega)]
      exact hst _ (List.getElem_mem _)
    walk_at "wp"
    refine s__law_likes h (by decide) ?_
    walk_at "wp"
    rw [e1, ixD_nl (by omega)]
    walk_at "wp"
    have hL := hlk x
    have ht := times_ok lo_le hL ((st.getD x 0 : Nat) : Int)
    refine s_likes_times (by have := hL.len; omega) (by omega) ?_
    walk_at "wp"
    refine s_likes_together (by have := ht.len; have := hw1.len; omega) ?_
    walk_at "wp"
    refine hk _ ⟨_, _, ⟨?_, fun f => ?_⟩, rfl⟩
    · have := both_ok lo_le hw1 ht
      rw [show 8 * (x + 1) = 8 * x + 8 by omega]
      exact this
    · rw [vsum_both hw1.pos0 ht.pos0, hw2, vsum_times (by omega) hL.pos0, isum_range_succ]
  obtain ⟨w, j5, ⟨hw1, hw2⟩, rfl⟩ := hρ
  rw [List.length_range] at hw1 hw2
  have ew : w = asc lo u := by
    have hg : asc lo u = gath lo (dl lo v st (n - 1)) := by rw [hu]; exact (gath_pos fun q hq => (dl_mem lo_le h st _ q hq).2).symm
    rw [hg]
    refine hw1.ext lo_anti (LOk.gath lo_le fun q hq => (dl_mem lo_le h st _ q hq).1) fun f => ?_
    rw [hw2, vsum_gath fun q hq => Int.le_of_lt (dl_mem lo_le h st _ q hq).2, vsum_dl]
  have elc : ∀ a, a < n → lc w a = isum (List.range (n - 1)) fun j => ((st.getD j 0 : Nat) : Int) * tc v a (j + 1) := fun a ha => by
    unfold lc
    rw [hw2]
    refine isum_congr fun j _ => ?_
    rw [← lc_lk h ha]
    rfl
  have esc : ∀ a, a < n → sc p v a = isum (List.range (n - 1)) fun j => ((st.getD j 0 : Nat) : Int) * tc v a (j + 1) := fun a ha => by
    have := sc_steps h (st := st.map fun z : Nat => (z : Int)) (by rw [List.length_map]; omega) (p := p) (fun i hi => by rw [hPa i hi]; exact isum_congr fun j _ => by rw [getD_map]) ha
    rw [this]
    exact isum_congr fun j _ => by rw [getD_map]
  walk_at "nx"
  walk_at "st"
  refine s__law_scoresl h (by omega) hPl hPs ?_
  walk_at "wp"
  walk_at "nx"
  walk_at "st"
  rw [sorted_k]
  walk_at "wp"
  rw [List.map_map]
  refine wpMap_all _ lD _ (fun w hw k hk => ?_) ?_
  · simp only [Function.comp]
    walk_at "wp"
    rw [ixD_k (m := w.2) (aGet_of_mem hun (mem_asc.mp hw))]
    walk_at "wp"
    exact hk
  walk_at "wp"
  rw [show D.tup ((asc lo u).map lD) = vD (asc lo u) from rfl, ← ew, e_vD.cop_ne (by decide)]
  walk_at "wp"
  rw [if_neg (by simp)]
  refine s_are_likes hw1 ?_
  rw [show copD .isnot (.bl true) (.bl true) = some false from rfl]
  walk_at "wp"
  walk_at "nx"
  walk_at "st"
  refine s_like_counts (by omega) ?_
  walk_at "wp"
  rw [ne_rows fun a ha => (elc a ha).trans (esc a ha).symm]
  walk_at "wp"
  walk_at "nx"
  walk_at "st"
  rw [htops]
  walk_at "wp"
  refine wpMap_all _ (fun a => .int (isum (List.range (n - 1)) fun j => ((st.getD j 0 : Nat) : Int) * tc v a (j + 1))) _ (fun a ha k hk => ?_) ?_
  · walk_at "wp"
    rw [zip_range st (n - 1) h1, List.map_map]
    refine wpMap_all _ (fun j => .int (((st.getD j 0 : Nat) : Int) * tc v a (j + 1))) _ (fun j hj k hk => ?_) ?_
    · have hj := List.mem_range.mp hj
      have hlt : st.getD j 0 < 4 := by
        rw [getD_at 0 (by omega)]
        exact hst _ (List.getElem_mem _)
      simp only [Function.comp]
      walk_at "wp"
      rw [bop_mul (.inl (by omega))]
      walk_at "wp"
      exact hk
    · rw [sum_l]
      exact hk
  rw [ne_rows esc]
  walk_at "wp"
  walk_at "nx"
  walk_at "st"
  refine ⟨small_nat (by omega), wpMap_if nD (fun a => decide (sc p v a = mx n (sc p v))) nD _ (fun a ha k h1 h2 => ?_) ?_⟩
  · walk_at "wp"
    rw [ixD_r (List.mem_range.mp ha)]
    walk_at "wp"
    rw [max_r (f := sc p v) n0]
    walk_at "wp"
    split
    · rename_i z; exact h1 (by simpa using z)
    · rename_i z; exact h2 (by simpa using z)
  walk_at "wp"
  walk_at "nx"
  walk_at "st"
  refine s_the_liked n0 (by omega) ?_
  have eww : wins n (lc w) = wins n (sc p v) := wins_congr n0 fun a ha => (elc a ha).trans (esc a ha).symm
  rw [eww, show D.tup (((List.range n).filter fun a => decide (sc p v a = mx n (sc p v))).map nD) = oD (wins n (sc p v)) from rfl, e_oD.cop_eq (by decide)]
  walk_at "wp"
  refine s_point_winners h n0 (by omega) hPl hPs ?_
  rw [e_oD.cop_eq (by decide)]
  walk_at "wp"
  simpa using q

theorem tc_le {n top : Nat} {v : List Lot} (h : VK n 8 v) (hb : ∀ p ∈ v, p.2 ≤ (top : Int)) (ht : top ≤ 100) (a k : Nat) : 0 ≤ tc v a k ∧ tc v a k < 900000 := by
  have h1 : 0 ≤ tc v a k := vsum_nonneg h.pos0 fun p _ => by split <;> omega
  have h2 : tc v a k ≤ isum v fun _ => (100 : Int) := isum_le fun p hp => by
    have := h.pos p hp
    have := hb p hp
    show p.2 * (if _ then 1 else 0) ≤ 100
    split <;> omega
  rw [isum_const] at h2
  have := h.len
  omega
theorem all_none {m : Nat} (p : Nat → Bool) : decide (((List.range m).filter p).map (· + 1) = []) = (List.range m).all fun j => !p j := by
  rw [Bool.eq_iff_iff, decide_eq_true_eq, List.map_eq_nil_iff, List.filter_eq_nil_iff, List.all_eq_true]
  simp
theorem all_le {m : Nat} {f g : Nat → Int} : ((List.range m).all fun j => !decide (f j < g j)) = (List.range m).all fun j => decide (g j ≤ f j) := by
  congr 1
  funext j
  rw [Bool.eq_iff_iff]
  simp
theorem s_firsts_in {n B : Nat} {v : List Lot} (h : VK n B v) {p : List Int} (hp : p.length = n) (hd : Desc p) {a : Nat} (ha : a < n) (hw : ∀ k, 1 ≤ k → k < n → a ∈ wins n (lc (lk lo k v))) : a ∈ wins n (sc p v) := by
  refine mem_wins.mpr ⟨ha, ?_⟩
  refine (mx_eq (s := sc p v) (m := sc p v a) ha rfl fun b hb => sc_tc_le h hp hd ha hb fun k h1 h2 => ?_).symm
  obtain ⟨_, e⟩ := mem_wins.mp (hw k h1 h2)
  rw [← lc_lk (le := lo) h hb k, ← lc_lk (le := lo) h ha k, e]
  exact le_mx hb
theorem ints_of : ∀ {ds : List DL.D} {b : Nat}, (∀ d ∈ ds, ∃ z : Int, d = .int z ∧ z.natAbs ≤ b) → ∃ xs : List Int, ds = xs.map D.int ∧ ∀ x ∈ xs, x.natAbs ≤ b
  | [], _, _ => ⟨[], rfl, by simp⟩
  | d :: ds, b, h => by
    obtain ⟨z, rfl, hz⟩ := h d List.mem_cons_self
    obtain ⟨xs, rfl, hx⟩ := ints_of (fun e he => h e (List.mem_cons_of_mem _ he))
    exact ⟨z :: xs, rfl, fun x hx' => by
      rcases List.mem_cons.mp hx' with e | e
      · rw [e]; exact hz
      · exact hx x e⟩
theorem sorted_ints (xs : List Int) : bltD .sorted [.lst (xs.map D.int)] = some (.lst ((xs.mergeSort fun a b => decide (a ≤ b)).map D.int)) := by
  show (if _ then _ else _) = _
  rw [if_pos (e_int.sortable (by decide) xs (.inr fun x _ => rfl)), sort_map]
  congr 3
  congr 1
  funext a b
  exact leD_int a b
theorem mono_ints (xs : List Int) : (xs.mergeSort fun a b => decide (a ≤ b)).Pairwise fun a b => a ≤ b := by
  have := List.pairwise_mergeSort (le := fun (a b : Int) => decide (a ≤ b)) (fun a b c h1 h2 => by simp at *; omega) (fun a b => by simp; omega) xs
  exact this.imp fun h => by simpa using h
theorem law_holds : LawHolds := by
  show wpSs g__law_points_right ir_law [none, some .src, none, none, none, none, none, none, none, none, none, none, none, none, none, none, none, none] _
  unfold ir_law
  walk_at "st"
  refine s__law_pick (m := 7) (by decide) (by decide) fun z hz => ?_
  walk_at "wp"
  rw [show ((2 : Int) + (z : Int)) = ((2 + z : Nat) : Int) by omega]
  have h0 : 2 ≤ 2 + z := by omega
  have hn : 2 + z ≤ 100 := by omega
  revert h0 hn
  generalize 2 + z = n
  intro h0 hn
  have n0 : 0 < n := by omega
  have hn' : n ≤ 1000 := by omega
  walk_at "nx"
  walk_at "st"
  refine s__law_of (xs := [1, 5, 100]) (f := nD) (by simp) (by decide) fun top ht => ?_
  have ht : 0 < top ∧ top ≤ 100 := by
    simp at ht
    omega
  walk_at "wp"
  refine s__law_votes n0 hn' ht.1 (by omega) fun v h hb => ?_
  walk_at "wp"
  walk_at "nx"
  walk_at "st"
  refine s_top_counts h n0 hn' ?_
  walk_at "wp"
  refine wpMap_all _ (fun a => .lst ((List.range (n - 1)).map fun j => .int (tc v a (j + 1)))) _ (fun a ha k hk => ?_) ?_
  · walk_at "wp"
    exact hk
  generalize htops : (D.lst ((List.range n).map fun a => .lst ((List.range (n - 1)).map fun j => .int (tc v a (j + 1))))) = tops
  have htop : ∀ a, a < n → ixD tops (nD a) = some (.lst ((List.range (n - 1)).map fun j => .int (tc v a (j + 1)))) := fun a ha => by
    rw [← htops]
    exact ixD_r ha
  walk_at "nx"
  walk_at "st"
  refine ⟨small_nat (by omega), ?_⟩
  refine wpLoop_inv nD _ (fun i ρ => ∃ j6 j7, ρ = [none, some .src, some (nD n), some (vD v), some tops, none, j6, j7, none, none, none, none, none, none, none, none, none, none]) ⟨_, _, rfl⟩ (fun i a ρ k hx hρ hk => ?_) (fun ρ hρ => ?_)
  · obtain ⟨j6, j7, rfl⟩ := hρ
    have ha : a < n := List.mem_range.mp (List.mem_of_getElem? hx)
    walk_at "wp"
    refine ⟨by unfold smallI; omega, small_nat (by omega), ?_⟩
    rw [range_1n]
    refine wpMap_all _ (fun k => .int (tc v a (k + 1))) _ (fun k hk K hK => ?_) ?_
    · walk_at "wp"
      refine wpMap_if lD (fun p => decide (p.1.idxOf a < k + 1)) (fun p => D.int p.2) v (fun p hp K h1 h2 => ?_) ?_
      · walk_at "wp"
        rw [e_nD.mth_t (by decide) ((h.ord p hp).mem.mpr ha)]
        walk_at "wp"
        split
        · rename_i z; exact h1 (by simpa using z)
        · rename_i z; exact h2 (by simpa using z)
      · rw [sum_l, isum_if v (fun o => o.idxOf a < k + 1)]
        exact hK
    walk_at "wp"
    rw [htop a ha]
    walk_at "wp"
    rw [ne_rows fun _ _ => rfl]
    walk_at "wp"
    exact hk _ ⟨_, _, rfl⟩
  obtain ⟨j6, j7, rfl⟩ := hρ
  walk_at "nx"
  walk_at "st"
  rw [show ((n : Int) + 1) = ((n + 1 : Nat) : Int) by omega]
  refine ⟨by unfold smallI; omega, small_nat (by omega), ?_⟩
  rw [range_1n, show n + 1 - 1 = n by omega]
  refine wpLoop_inv _ _ (fun i ρ => ∃ j10, ρ = [none, some .src, some (nD n), some (vD v), some tops, none, j6, j7, none, none, j10, none, none, none, none, none, none, none]) ⟨_, rfl⟩ (fun i x ρ k hx hρ hk => ?_) (fun ρ hρ => ?_)
  · obtain ⟨j10, rfl⟩ := hρ
    have hi : x < n := List.mem_range.mp (List.mem_of_getElem? hx)
    walk_at "wp"
    subst htops
    refine s__law_row_right h h0 hn' (by omega) (by omega) ?_
    walk_at "wp"
    exact hk _ ⟨_, rfl⟩
  obtain ⟨j10, rfl⟩ := hρ
  walk_at "nx"
  walk_at "st"
  refine s__law_points_right h h0 hn htops.symm ?_
  walk_at "wp"
  walk_at "nx"
  walk_at "st"
  refine ⟨small_nat (by omega), ?_⟩
  refine wpLoop_inv nD _ (fun i ρ => ∃ j6 j11 j12, ρ = [none, some .src, some (nD n), some (vD v), some tops, none, j6, j7, none, none, j10, j11, j12, none, none, none, none, none]) ⟨_, _, _, rfl⟩ (fun i a ρ k hx hρ hk => ?_) (fun ρ hρ => ?_)
  · obtain ⟨j6, j11, j12, rfl⟩ := hρ
    have ha : a < n := List.mem_range.mp (List.mem_of_getElem? hx)
    walk_at "wp"
    refine ⟨small_nat (by omega), ?_⟩
    refine wpLoop_inv nD _ (fun i ρ => ∃ j11 j12, ρ = [none, some .src, some (nD n), some (vD v), some tops, none, some (nD a), j7, none, none, j10, j11, j12, none, none, none, none, none]) ⟨_, _, rfl⟩ (fun i b ρ k hx hρ hk => ?_) (fun ρ hρ => ?_)
    · obtain ⟨j11, j12, rfl⟩ := hρ
      have hb' : b < n := List.mem_range.mp (List.mem_of_getElem? hx)
      walk_at "wp"
      refine ⟨by unfold smallI; omega, small_nat (by omega), ?_⟩
      rw [range_1n]
      refine wpMap_if _ (fun j => decide (tc v b (j + 1) < tc v a (j + 1))) (fun j => nD (j + 1)) _ (fun j hj K h1 h2 => ?_) ?_
      · have hj := List.mem_range.mp hj
        walk_at "wp"
        refine s__law_likes h (by decide) ?_
        walk_at "wp"
        refine s__law_counts hn' ?_
        rw [ixD_r hb']
        walk_at "wp"
        rw [htop a ha]
        walk_at "wp"
        rw [show (((j + 1 : Nat) : Int) - 1) = (j : Int) by omega, ixD_r hj]
        walk_at "wp"
        rw [lc_lk h hb']
        split
        · rename_i z; exact h1 (by simpa using z)
        · rename_i z; exact h2 (by simpa using z)
      rw [show (D.lst (((List.range (n - 1)).filter fun j => decide (tc v b (j + 1) < tc v a (j + 1))).map fun j => nD (j + 1))) = .lst ((((List.range (n - 1)).filter fun j => decide (tc v b (j + 1) < tc v a (j + 1))).map (· + 1)).map nD) by rw [List.map_map]; rfl]
      rw [show D.lst [] = .lst (([] : List Nat).map nD) from rfl, e_nD.lst.cop_eq (by decide), all_none, all_le]
      walk_at "wp"
      refine s_is_ahead_always h n0 hn' ha hb' ?_
      rw [e_bl.cop_ne (by decide)]
      walk_at "wp"
      rw [if_neg (by simp)]
      refine s_is_above_always h n0 hn' ha hb' ?_
      walk_at "wp"
      refine if_first (fun hc rest => ?_) ?_
      · refine s_never_winners h n0 hn' ?_
        rw [e_nD.notin_t (by decide)]
        walk_at "wp"
        have i1 : a ∈ (List.range n).filter fun a => (List.range n).any fun b => above n v b a := by
          rw [List.mem_filter, List.mem_range, List.any_eq_true]
          exact ⟨ha, b, List.mem_range.mpr hb', hc⟩
        have i2 : ((List.range (n - 1)).all fun j => decide (tc v a (j + 1) ≤ tc v b (j + 1))) = true := by
          rw [List.all_eq_true] at hc ⊢
          intro j hj
          have := hc j hj
          simp at this ⊢
          omega
        rw [if_neg (by simp [i1]), if_neg (by rw [i2]; decide)]
        exact rest
      · exact hk _ ⟨_, _, rfl⟩
    · obtain ⟨j11, j12, rfl⟩ := hρ
      exact hk _ ⟨_, _, _, rfl⟩
  obtain ⟨j6, j11, j12, rfl⟩ := hρ
  walk_at "nx"
  walk_at "st"
  refine ⟨small_nat (by omega), ?_⟩
  refine wpMap_if nD (fun a => (List.range (n - 1)).all fun j => decide (a ∈ wins n (lc (lk lo (j + 1) v)))) nD _ (fun a ha K h1 h2 => ?_) ?_
  · have ha := List.mem_range.mp ha
    walk_at "wp"
    refine ⟨by unfold smallI; omega, small_nat (by omega), ?_⟩
    rw [range_1n]
    refine wpMap_if _ (fun j => !decide (a ∈ wins n (lc (lk lo (j + 1) v)))) (fun j => nD (j + 1)) _ (fun j hj K h1 h2 => ?_) ?_
    · walk_at "wp"
      refine s__law_likes h (by decide) ?_
      walk_at "wp"
      refine s_the_liked n0 hn' ?_
      rw [e_nD.notin_t (by decide)]
      walk_at "wp"
      split
      · rename_i z; exact h1 (by simpa using z)
      · rename_i z; exact h2 (by simpa using z)
    rw [show (D.lst (((List.range (n - 1)).filter fun j => !decide (a ∈ wins n (lc (lk lo (j + 1) v)))).map fun j => nD (j + 1))) = .lst ((((List.range (n - 1)).filter fun j => !decide (a ∈ wins n (lc (lk lo (j + 1) v)))).map (· + 1)).map nD) by rw [List.map_map]; rfl]
    rw [show D.lst [] = .lst (([] : List Nat).map nD) from rfl, e_nD.lst.cop_eq (by decide), all_none]
    walk_at "wp"
    split
    · rename_i z; exact h1 (by simpa using z)
    · rename_i z; exact h2 (by simpa using z)
  walk_at "wp"
  generalize hfs : (List.range n).filter (fun a => (List.range (n - 1)).all fun j => decide (a ∈ wins n (lc (lk lo (j + 1) v)))) = fs
  walk_at "nx"
  walk_at "st"
  refine ⟨small_nat (by omega), wpMap_any nD (fun d => ∃ z : Int, d = .int z ∧ z.natAbs ≤ 9) _ (fun x hx k hk => ?_) (fun ds h1 h2 => ?_)⟩
  · walk_at "wp"
    refine s__law_pick (m := 9) (by decide) (by decide) fun z hz => ?_
    exact hk _ ⟨_, rfl, by omega⟩
  obtain ⟨xs, rfl, hx⟩ := ints_of h2
  rw [List.length_map, List.length_range] at h1
  rw [bop_lst (by simp; omega), show xs.map D.int ++ [D.int 0] = (xs ++ [0]).map D.int by rw [List.map_append]; rfl]
  walk_at "wp"
  rw [sorted_ints]
  walk_at "wp"
  have hx' : ∀ x ∈ xs ++ [0], x.natAbs ≤ 9 := fun x hx' => by
    rcases List.mem_append.mp hx' with e | e
    · exact hx x e
    · rw [List.mem_singleton.mp e]; decide
  have hm : ∀ x ∈ ((xs ++ [0]).mergeSort fun a b => decide (a ≤ b)).reverse, x.natAbs ≤ 9 := fun x hx'' => hx' x (by
    rw [List.mem_reverse] at hx''
    exact List.mem_mergeSort.mp hx'')
  have hl : ((xs ++ [0]).mergeSort fun a b => decide (a ≤ b)).reverse.length = n + 1 := by rw [List.length_reverse, List.length_mergeSort]; simpa using h1
  have hd : Desc ((xs ++ [0]).mergeSort fun a b => decide (a ≤ b)).reverse := by
    unfold Desc
    rw [List.pairwise_reverse]
    exact mono_ints _
  revert hm hl hd
  generalize ((xs ++ [0]).mergeSort fun a b => decide (a ≤ b)).reverse = ys
  intro hm hl hd
  rw [sl_hi_l]
  walk_at "wp"
  have hd' : Desc (ys.take n) := hd.sublist (List.take_sublist _ _)
  have hm' : SmallP (ys.take n) := fun x hx => by
    have := hm x (List.mem_of_mem_take hx)
    omega
  have hl' : (ys.take n).length = n := by rw [List.length_take]; omega
  revert hd' hm' hl'
  generalize ys.take n = p
  intro hd' hm' hl'
  walk_at "nx"
  walk_at "st"
  rw [show D.int 0 = nD 0 from rfl, ixD_p (by omega)]
  walk_at "wp"
  rw [show ((n : Int) - 1) = ((n - 1 : Nat) : Int) by omega, ixD_p (by omega)]
  walk_at "wp"
  refine if_first (fun hc rest => ?_) ?_
  · refine wpMap_if nD (fun a => !decide (a ∈ wins n (sc p v))) nD _ (fun a ha K h1 h2 => ?_) ?_
    · walk_at "wp"
      refine s_point_winners h n0 hn' hl' hm' ?_
      rw [e_nD.notin_t (by decide)]
      walk_at "wp"
      split
      · rename_i z; exact h1 (by simpa using z)
      · rename_i z; exact h2 (by simpa using z)
    have e : fs.filter (fun a => !decide (a ∈ wins n (sc p v))) = [] := by
      rw [List.filter_eq_nil_iff]
      intro a ha
      rw [← hfs, List.mem_filter, List.mem_range, List.all_eq_true] at ha
      have := s_firsts_in h hl' hd' ha.1 fun k h1 h2 => by
        have := ha.2 (k - 1) (List.mem_range.mpr (by omega))
        rw [show k - 1 + 1 = k by omega] at this
        simpa using this
      simp [this]
    rw [e, show D.lst [] = .lst (([] : List Nat).map nD) from rfl, e_nD.lst.cop_ne (by decide)]
    walk_at "wp"
    rw [if_neg (by simp)]
    exact rest
  walk_at "nx"
  walk_at "st"
  refine s__law_likes h (by decide) ?_
  walk_at "wp"
  refine s_like_counts hn' ?_
  walk_at "wp"
  walk_at "nx"
  walk_at "st"
  have hc : ∀ a, a < n → 0 ≤ lc (lk lo 1 v) a ∧ lc (lk lo 1 v) a < 900000 := fun a ha => by
    rw [lc_lk h ha]
    exact tc_le h hb ht.2 a 1
  refine s_steps_of_counts n0 hn' hc fun lw hi q0 q1 q2 => ?_
  walk_at "wp"
  walk_at "nx"
  walk_at "st"
  rw [max_r n0]
  walk_at "wp"
  split
  · trivial
  have es : ∀ a, a < n → lc (gath lo (stepsP n (lc (lk lo 1 v)) lw hi)) a = lc (lk lo 1 v) a := fun a ha => lc_steps q0 q1 q2 ha
  walk_at "nx"
  walk_at "st"
  refine s_like_counts hn' ?_
  walk_at "wp"
  rw [eq_rows es]
  walk_at "wp"
  refine s_the_liked n0 hn' ?_
  refine s__law_likes h (by decide) ?_
  walk_at "wp"
  refine s_the_liked n0 hn' ?_
  rw [wins_congr n0 es, e_oD.cop_eq (by decide)]
  walk_at "wp"

end R85
namespace R85
open PySem PySem.Spec PyProof.Rows L2 DL
abbrev pw : PySem.Program := PySem.Challenge.pw_chosenbymany_k85_whole_first_places_as_l
abbrev rw_ : PySem.W.OpenLaw := PySem.Challenge.rw_chosenbymany_k85_whole_first_places_as_l
def top (i : Nat) : Stmt := pw.main.body.getD i (.Pass ⟨0, 0, 0, 0⟩)
abbrev FnP (K : PySem.W.Frag) (x : Str) (st : Stmt) (f : Addr) (fd : FuncData) : Prop := FunD K x x (defArgs st) (defBody st) (defScope st) [] [] f fd
/-! voters_of -/
abbrev N_voters_of : List Str := ["votes", "order", "many"]
theorem sc_voters_of : FnScope N_voters_of ["votes"] (defScope (top 1)) := ⟨rfl, rfl, rfl, by decide +kernel, rfl, by decide +kernel, by decide +kernel⟩
theorem m_voters_of : mSs ⟨N_voters_of, defScope (top 1), fun _ => true⟩ ir_voters_of (defBody (top 1)) = true := by decide +kernel
theorem o_voters_of : (okSs (fun _ => false) (List.replicate N_voters_of.length 0) (List.replicate N_voters_of.length 0) ir_voters_of).isSome = true := by decide +kernel
/-! top_count -/
abbrev N_top_count : List Str := ["votes", "a", "k", "order", "many"]
theorem sc_top_count : FnScope N_top_count ["votes", "a", "k"] (defScope (top 3)) := ⟨rfl, rfl, rfl, by decide +kernel, rfl, by decide +kernel, by decide +kernel⟩
theorem m_top_count : mSs ⟨N_top_count, defScope (top 3), fun _ => true⟩ ir_top_count (defBody (top 3)) = true := by decide +kernel
theorem o_top_count : (okSs (fun _ => false) (List.replicate N_top_count.length 0) (List.replicate N_top_count.length 0) ir_top_count).isSome = true := by decide +kernel
/-! top_counts -/
abbrev N_top_counts : List Str := ["votes", "n", "k", "a"]
theorem sc_top_counts : FnScope N_top_counts ["votes"] (defScope (top 4)) := ⟨rfl, rfl, rfl, by decide +kernel, rfl, by decide +kernel, by decide +kernel⟩
theorem m_top_counts : mSs ⟨N_top_counts, defScope (top 4), fun _ => true⟩ ir_top_counts (defBody (top 4)) = true := by decide +kernel
theorem o_top_counts : (okSs (fun _ => false) (List.replicate N_top_counts.length 0) (List.replicate N_top_counts.length 0) ir_top_counts).isSome = true := by decide +kernel
/-! is_ahead_always -/
abbrev N_is_ahead_always : List Str := ["votes", "b", "a", "counts", "x", "y"]
theorem sc_is_ahead_always : FnScope N_is_ahead_always ["votes", "b", "a"] (defScope (top 5)) := ⟨rfl, rfl, rfl, by decide +kernel, rfl, by decide +kernel, by decide +kernel⟩
theorem m_is_ahead_always : mSs ⟨N_is_ahead_always, defScope (top 5), fun _ => true⟩ ir_is_ahead_always (defBody (top 5)) = true := by decide +kernel
theorem o_is_ahead_always : (okSs (fun _ => false) (List.replicate N_is_ahead_always.length 0) (List.replicate N_is_ahead_always.length 0) ir_is_ahead_always).isSome = true := by decide +kernel
/-! is_above_always -/
abbrev N_is_above_always : List Str := ["votes", "b", "a", "counts", "x", "y"]
theorem sc_is_above_always : FnScope N_is_above_always ["votes", "b", "a"] (defScope (top 6)) := ⟨rfl, rfl, rfl, by decide +kernel, rfl, by decide +kernel, by decide +kernel⟩
theorem m_is_above_always : mSs ⟨N_is_above_always, defScope (top 6), fun _ => true⟩ ir_is_above_always (defBody (top 6)) = true := by decide +kernel
theorem o_is_above_always : (okSs (fun _ => false) (List.replicate N_is_above_always.length 0) (List.replicate N_is_above_always.length 0) ir_is_above_always).isSome = true := by decide +kernel
/-! never_winners -/
abbrev N_never_winners : List Str := ["votes", "n", "a", "b"]
theorem sc_never_winners : FnScope N_never_winners ["votes"] (defScope (top 7)) := ⟨rfl, rfl, rfl, by decide +kernel, rfl, by decide +kernel, by decide +kernel⟩
theorem m_never_winners : mSs ⟨N_never_winners, defScope (top 7), fun _ => true⟩ ir_never_winners (defBody (top 7)) = true := by decide +kernel
theorem o_never_winners : (okSs (fun _ => false) (List.replicate N_never_winners.length 0) (List.replicate N_never_winners.length 0) ir_never_winners).isSome = true := by decide +kernel
/-! is_thing_lot -/
abbrev N_is_thing_lot : List Str := ["n", "value", "a", "b"]
theorem sc_is_thing_lot : FnScope N_is_thing_lot ["n", "value"] (defScope (top 9)) := ⟨rfl, rfl, rfl, by decide +kernel, rfl, by decide +kernel, by decide +kernel⟩
theorem m_is_thing_lot : mSs ⟨N_is_thing_lot, defScope (top 9), fun _ => true⟩ ir_is_thing_lot (defBody (top 9)) = true := by decide +kernel
theorem o_is_thing_lot : (okSs (fun _ => false) (List.replicate N_is_thing_lot.length 0) (List.replicate N_is_thing_lot.length 0) ir_is_thing_lot).isSome = true := by decide +kernel
/-! is_like_pair -/
abbrev N_is_like_pair : List Str := ["n", "value"]
theorem sc_is_like_pair : FnScope N_is_like_pair ["n", "value"] (defScope (top 10)) := ⟨rfl, rfl, rfl, by decide +kernel, rfl, by decide +kernel, by decide +kernel⟩
theorem m_is_like_pair : mSs ⟨N_is_like_pair, defScope (top 10), fun _ => true⟩ ir_is_like_pair (defBody (top 10)) = true := by decide +kernel
theorem o_is_like_pair : (okSs (fun _ => false) (List.replicate N_is_like_pair.length 0) (List.replicate N_is_like_pair.length 0) ir_is_like_pair).isSome = true := by decide +kernel
/-! are_likes -/
abbrev N_are_likes : List Str := ["n", "value", "pair", "one", "late"]
theorem sc_are_likes : FnScope N_are_likes ["n", "value"] (defScope (top 11)) := ⟨rfl, rfl, rfl, by decide +kernel, rfl, by decide +kernel, by decide +kernel⟩
theorem m_are_likes : mSs ⟨N_are_likes, defScope (top 11), fun _ => true⟩ ir_are_likes (defBody (top 11)) = true := by decide +kernel
theorem o_are_likes : (okSs (fun _ => false) (List.replicate N_are_likes.length 0) (List.replicate N_are_likes.length 0) ir_are_likes).isSome = true := by decide +kernel
/-! like_counts -/
abbrev N_like_counts : List Str := ["n", "likes", "lot", "many", "a"]
theorem sc_like_counts : FnScope N_like_counts ["n", "likes"] (defScope (top 12)) := ⟨rfl, rfl, rfl, by decide +kernel, rfl, by decide +kernel, by decide +kernel⟩
theorem m_like_counts : mSs ⟨N_like_counts, defScope (top 12), fun _ => true⟩ ir_like_counts (defBody (top 12)) = true := by decide +kernel
theorem o_like_counts : (okSs (fun _ => false) (List.replicate N_like_counts.length 0) (List.replicate N_like_counts.length 0) ir_like_counts).isSome = true := by decide +kernel
/-! the_liked -/
abbrev N_the_liked : List Str := ["n", "likes", "counts", "a"]
theorem sc_the_liked : FnScope N_the_liked ["n", "likes"] (defScope (top 13)) := ⟨rfl, rfl, rfl, by decide +kernel, rfl, by decide +kernel, by decide +kernel⟩
theorem m_the_liked : mSs ⟨N_the_liked, defScope (top 13), fun _ => true⟩ ir_the_liked (defBody (top 13)) = true := by decide +kernel
theorem o_the_liked : (okSs (fun _ => false) (List.replicate N_the_liked.length 0) (List.replicate N_the_liked.length 0) ir_the_liked).isSome = true := by decide +kernel
/-! gathered -/
abbrev N_gathered : List Str := ["pairs", "found", "lot", "many"]
theorem sc_gathered : FnScope N_gathered ["pairs"] (defScope (top 14)) := ⟨rfl, rfl, rfl, by decide +kernel, rfl, by decide +kernel, by decide +kernel⟩
theorem m_gathered : mSs ⟨N_gathered, defScope (top 14), fun _ => true⟩ ir_gathered (defBody (top 14)) = true := by decide +kernel
theorem o_gathered : (okSs (fun _ => false) (List.replicate N_gathered.length 0) (List.replicate N_gathered.length 0) ir_gathered).isSome = true := by decide +kernel
/-! likes_together -/
abbrev N_likes_together : List Str := ["one", "other"]
theorem sc_likes_together : FnScope N_likes_together ["one", "other"] (defScope (top 15)) := ⟨rfl, rfl, rfl, by decide +kernel, rfl, by decide +kernel, by decide +kernel⟩
theorem m_likes_together : mSs ⟨N_likes_together, defScope (top 15), fun _ => true⟩ ir_likes_together (defBody (top 15)) = true := by decide +kernel
theorem o_likes_together : (okSs (fun _ => false) (List.replicate N_likes_together.length 0) (List.replicate N_likes_together.length 0) ir_likes_together).isSome = true := by decide +kernel
/-! likes_times -/
abbrev N_likes_times : List Str := ["likes", "k", "lot", "many"]
theorem sc_likes_times : FnScope N_likes_times ["likes", "k"] (defScope (top 16)) := ⟨rfl, rfl, rfl, by decide +kernel, rfl, by decide +kernel, by decide +kernel⟩
theorem m_likes_times : mSs ⟨N_likes_times, defScope (top 16), fun _ => true⟩ ir_likes_times (defBody (top 16)) = true := by decide +kernel
theorem o_likes_times : (okSs (fun _ => false) (List.replicate N_likes_times.length 0) (List.replicate N_likes_times.length 0) ir_likes_times).isSome = true := by decide +kernel
/-! lot_left -/
abbrev N_lot_left : List Str := ["n", "lot", "a"]
theorem sc_lot_left : FnScope N_lot_left ["n", "lot"] (defScope (top 17)) := ⟨rfl, rfl, rfl, by decide +kernel, rfl, by decide +kernel, by decide +kernel⟩
theorem m_lot_left : mSs ⟨N_lot_left, defScope (top 17), fun _ => true⟩ ir_lot_left (defBody (top 17)) = true := by decide +kernel
theorem o_lot_left : (okSs (fun _ => false) (List.replicate N_lot_left.length 0) (List.replicate N_lot_left.length 0) ir_lot_left).isSome = true := by decide +kernel
/-! turned_likes -/
abbrev N_turned_likes : List Str := ["n", "likes", "lot", "many"]
theorem sc_turned_likes : FnScope N_turned_likes ["n", "likes"] (defScope (top 18)) := ⟨rfl, rfl, rfl, by decide +kernel, rfl, by decide +kernel, by decide +kernel⟩
theorem m_turned_likes : mSs ⟨N_turned_likes, defScope (top 18), fun _ => true⟩ ir_turned_likes (defBody (top 18)) = true := by decide +kernel
theorem o_turned_likes : (okSs (fun _ => false) (List.replicate N_turned_likes.length 0) (List.replicate N_turned_likes.length 0) ir_turned_likes).isSome = true := by decide +kernel
/-! steps_of_counts -/
abbrev N_steps_of_counts : List Str := ["counts", "pairs", "i", "a", "count"]
theorem sc_steps_of_counts : FnScope N_steps_of_counts ["counts"] (defScope (top 19)) := ⟨rfl, rfl, rfl, by decide +kernel, rfl, by decide +kernel, by decide +kernel⟩
theorem m_steps_of_counts : mSs ⟨N_steps_of_counts, defScope (top 19), fun _ => true⟩ ir_steps_of_counts (defBody (top 19)) = true := by decide +kernel
theorem o_steps_of_counts : (okSs (fun _ => false) (List.replicate N_steps_of_counts.length 0) (List.replicate N_steps_of_counts.length 0) ir_steps_of_counts).isSome = true := by decide +kernel
/-! more_like -/
abbrev N_more_like : List Str := ["likes", "a", "b", "lot", "many"]
theorem sc_more_like : FnScope N_more_like ["likes", "a", "b"] (defScope (top 21)) := ⟨rfl, rfl, rfl, by decide +kernel, rfl, by decide +kernel, by decide +kernel⟩
theorem m_more_like : mSs ⟨N_more_like, defScope (top 21), fun _ => true⟩ ir_more_like (defBody (top 21)) = true := by decide +kernel
theorem o_more_like : (okSs (fun _ => false) (List.replicate N_more_like.length 0) (List.replicate N_more_like.length 0) ir_more_like).isSome = true := by decide +kernel
/-! like_beats -/
abbrev N_like_beats : List Str := ["n", "likes", "rows", "a", "b"]
theorem sc_like_beats : FnScope N_like_beats ["n", "likes"] (defScope (top 22)) := ⟨rfl, rfl, rfl, by decide +kernel, rfl, by decide +kernel, by decide +kernel⟩
theorem m_like_beats : mSs ⟨N_like_beats, defScope (top 22), fun _ => true⟩ ir_like_beats (defBody (top 22)) = true := by decide +kernel
theorem o_like_beats : (okSs (fun _ => false) (List.replicate N_like_beats.length 0) (List.replicate N_like_beats.length 0) ir_like_beats).isSome = true := by decide +kernel
/-! unbeaten -/
abbrev N_unbeaten : List Str := ["n", "likes", "rows", "a", "row"]
theorem sc_unbeaten : FnScope N_unbeaten ["n", "likes"] (defScope (top 23)) := ⟨rfl, rfl, rfl, by decide +kernel, rfl, by decide +kernel, by decide +kernel⟩
theorem m_unbeaten : mSs ⟨N_unbeaten, defScope (top 23), fun _ => true⟩ ir_unbeaten (defBody (top 23)) = true := by decide +kernel
theorem o_unbeaten : (okSs (fun _ => false) (List.replicate N_unbeaten.length 0) (List.replicate N_unbeaten.length 0) ir_unbeaten).isSome = true := by decide +kernel
/-! scores_of -/
abbrev N_scores_of : List Str := ["points", "votes", "found", "order", "many", "place", "a"]
theorem sc_scores_of : FnScope N_scores_of ["points", "votes"] (defScope (top 25)) := ⟨rfl, rfl, rfl, by decide +kernel, rfl, by decide +kernel, by decide +kernel⟩
theorem m_scores_of : mSs ⟨N_scores_of, defScope (top 25), fun _ => true⟩ ir_scores_of (defBody (top 25)) = true := by decide +kernel
theorem o_scores_of : (okSs (fun _ => false) (List.replicate N_scores_of.length 0) (List.replicate N_scores_of.length 0) ir_scores_of).isSome = true := by decide +kernel
/-! point_winners -/
abbrev N_point_winners : List Str := ["points", "votes", "scores", "a", "score"]
theorem sc_point_winners : FnScope N_point_winners ["points", "votes"] (defScope (top 26)) := ⟨rfl, rfl, rfl, by decide +kernel, rfl, by decide +kernel, by decide +kernel⟩
theorem m_point_winners : mSs ⟨N_point_winners, defScope (top 26), fun _ => true⟩ ir_point_winners (defBody (top 26)) = true := by decide +kernel
theorem o_point_winners : (okSs (fun _ => false) (List.replicate N_point_winners.length 0) (List.replicate N_point_winners.length 0) ir_point_winners).isSome = true := by decide +kernel
/-! gathered_votes -/
abbrev N_gathered_votes : List Str := ["pairs", "found", "order", "many"]
theorem sc_gathered_votes : FnScope N_gathered_votes ["pairs"] (defScope (top 27)) := ⟨rfl, rfl, rfl, by decide +kernel, rfl, by decide +kernel, by decide +kernel⟩
theorem m_gathered_votes : mSs ⟨N_gathered_votes, defScope (top 27), fun _ => true⟩ ir_gathered_votes (defBody (top 27)) = true := by decide +kernel
theorem o_gathered_votes : (okSs (fun _ => false) (List.replicate N_gathered_votes.length 0) (List.replicate N_gathered_votes.length 0) ir_gathered_votes).isSome = true := by decide +kernel
/-! turned_votes -/
abbrev N_turned_votes : List Str := ["votes", "order", "many"]
theorem sc_turned_votes : FnScope N_turned_votes ["votes"] (defScope (top 29)) := ⟨rfl, rfl, rfl, by decide +kernel, rfl, by decide +kernel, by decide +kernel⟩
theorem m_turned_votes : mSs ⟨N_turned_votes, defScope (top 29), fun _ => true⟩ ir_turned_votes (defBody (top 29)) = true := by decide +kernel
theorem o_turned_votes : (okSs (fun _ => false) (List.replicate N_turned_votes.length 0) (List.replicate N_turned_votes.length 0) ir_turned_votes).isSome = true := by decide +kernel
/-! _law_source -/
abbrev N__law_source : List Str := ["script", "mixed", "cell"]
theorem sc__law_source : FnScope N__law_source ["script"] (defScope (top 31)) := ⟨rfl, rfl, rfl, by decide +kernel, rfl, by decide +kernel, by decide +kernel⟩
theorem m__law_source : mSrcA ⟨N__law_source, defScope (top 31), fun _ => true⟩ 0 1 2 83 40503 59 23 2147483629 1 (defBody (top 31)) = true := by decide +kernel
/-! _law_pick -/
abbrev N__law_pick : List Str := ["source", "many", "left", "mixed"]
theorem sc__law_pick : FnScope N__law_pick ["source", "many"] (defScope (top 32)) := ⟨rfl, rfl, rfl, by decide +kernel, rfl, by decide +kernel, by decide +kernel⟩
theorem m__law_pick : mSs ⟨N__law_pick, defScope (top 32), fun _ => true⟩ ir__law_pick (defBody (top 32)) = true := by decide +kernel
theorem o__law_pick : (okSs (fun _ => false) (List.replicate N__law_pick.length 0) (List.replicate N__law_pick.length 0) ir__law_pick).isSome = true := by decide +kernel
/-! _law_of -/
abbrev N__law_of : List Str := ["source", "some"]
theorem sc__law_of : FnScope N__law_of ["source", "some"] (defScope (top 33)) := ⟨rfl, rfl, rfl, by decide +kernel, rfl, by decide +kernel, by decide +kernel⟩
theorem m__law_of : mSs ⟨N__law_of, defScope (top 33), fun _ => true⟩ ir__law_of (defBody (top 33)) = true := by decide +kernel
theorem o__law_of : (okSs (fun _ => false) (List.replicate N__law_of.length 0) (List.replicate N__law_of.length 0) ir__law_of).isSome = true := by decide +kernel
/-! _law_mixed -/
abbrev N__law_mixed : List Str := ["source", "things", "rest", "found"]
theorem sc__law_mixed : FnScope N__law_mixed ["source", "things"] (defScope (top 34)) := ⟨rfl, rfl, rfl, by decide +kernel, rfl, by decide +kernel, by decide +kernel⟩
theorem m__law_mixed : mSs ⟨N__law_mixed, defScope (top 34), fun _ => true⟩ ir__law_mixed (defBody (top 34)) = true := by decide +kernel
theorem o__law_mixed : (okSs (fun _ => false) (List.replicate N__law_mixed.length 0) (List.replicate N__law_mixed.length 0) ir__law_mixed).isSome = true := by decide +kernel
/-! _law_votes -/
abbrev N__law_votes : List Str := ["source", "n", "top", "found", "turn", "order"]
theorem sc__law_votes : FnScope N__law_votes ["source", "n", "top"] (defScope (top 35)) := ⟨rfl, rfl, rfl, by decide +kernel, rfl, by decide +kernel, by decide +kernel⟩
theorem m__law_votes : mSs ⟨N__law_votes, defScope (top 35), fun _ => true⟩ ir__law_votes (defBody (top 35)) = true := by decide +kernel
theorem o__law_votes : (okSs (fun _ => false) (List.replicate N__law_votes.length 0) (List.replicate N__law_votes.length 0) ir__law_votes).isSome = true := by decide +kernel
/-! _law_scores -/
abbrev N__law_scores : List Str := ["points", "votes", "found", "order", "many", "x", "a"]
theorem sc__law_scores : FnScope N__law_scores ["points", "votes"] (defScope (top 36)) := ⟨rfl, rfl, rfl, by decide +kernel, rfl, by decide +kernel, by decide +kernel⟩
theorem m__law_scores : mSs ⟨N__law_scores, defScope (top 36), fun _ => true⟩ ir__law_scores (defBody (top 36)) = true := by decide +kernel
theorem o__law_scores : (okSs (fun _ => false) (List.replicate N__law_scores.length 0) (List.replicate N__law_scores.length 0) ir__law_scores).isSome = true := by decide +kernel
/-! _law_likes -/
abbrev N__law_likes : List Str := ["votes", "k", "found", "order", "many", "lot"]
theorem sc__law_likes : FnScope N__law_likes ["votes", "k"] (defScope (top 37)) := ⟨rfl, rfl, rfl, by decide +kernel, rfl, by decide +kernel, by decide +kernel⟩
theorem m__law_likes : mSs ⟨N__law_likes, defScope (top 37), fun _ => true⟩ ir__law_likes (defBody (top 37)) = true := by decide +kernel
theorem o__law_likes : (okSs (fun _ => false) (List.replicate N__law_likes.length 0) (List.replicate N__law_likes.length 0) ir__law_likes).isSome = true := by decide +kernel
/-! _law_counts -/
abbrev N__law_counts : List Str := ["n", "likes", "lot", "many", "a"]
theorem sc__law_counts : FnScope N__law_counts ["n", "likes"] (defScope (top 38)) := ⟨rfl, rfl, rfl, by decide +kernel, rfl, by decide +kernel, by decide +kernel⟩
theorem m__law_counts : mSs ⟨N__law_counts, defScope (top 38), fun _ => true⟩ ir__law_counts (defBody (top 38)) = true := by decide +kernel
theorem o__law_counts : (okSs (fun _ => false) (List.replicate N__law_counts.length 0) (List.replicate N__law_counts.length 0) ir__law_counts).isSome = true := by decide +kernel
/-! _law_row_right -/
abbrev N__law_row_right : List Str := ["n", "votes", "k", "tops", "likes", "voters", "counts", "row", "best", "a", "points", "rows", "b", "late", "x"]
theorem sc__law_row_right : FnScope N__law_row_right ["n", "votes", "k", "tops"] (defScope (top 39)) := ⟨rfl, rfl, rfl, by decide +kernel, rfl, by decide +kernel, by decide +kernel⟩
theorem m__law_row_right : mSs ⟨N__law_row_right, defScope (top 39), fun _ => true⟩ ir__law_row_right (defBody (top 39)) = true := by decide +kernel
theorem o__law_row_right : (okSs (fun _ => false) (List.replicate N__law_row_right.length 0) (List.replicate N__law_row_right.length 0) ir__law_row_right).isSome = true := by decide +kernel
/-! _law_points_right -/
abbrev N__law_points_right : List Str := ["source", "n", "votes", "tops", "steps", "k", "points", "likes", "due", "lot", "many", "scores", "x", "row", "best", "a"]
theorem sc__law_points_right : FnScope N__law_points_right ["source", "n", "votes", "tops"] (defScope (top 40)) := ⟨rfl, rfl, rfl, by decide +kernel, rfl, by decide +kernel, by decide +kernel⟩
theorem m__law_points_right : mSs ⟨N__law_points_right, defScope (top 40), fun _ => true⟩ ir__law_points_right (defBody (top 40)) = true := by decide +kernel
theorem o__law_points_right : (okSs (fun _ => false) (List.replicate N__law_points_right.length 0) (List.replicate N__law_points_right.length 0) ir__law_points_right).isSome = true := by decide +kernel
/-! law -/
abbrev N_law : List Str := ["script", "source", "n", "votes", "tops", "row", "a", "due", "order", "many", "k", "b", "ahead", "firsts", "points", "i", "counts", "late"]
theorem sc_law : FnScope N_law ["script"] (defScope (top 41)) := ⟨rfl, rfl, rfl, by decide +kernel, rfl, by decide +kernel, by decide +kernel⟩
theorem m_law : mLaw ⟨N_law, defScope (top 41), fun _ => true⟩ 0 1 "_law_source" ir_law (defBody (top 41)) = true := by decide +kernel
theorem o_law : (okSs (fun _ => false) (List.replicate N_law.length 0) (List.replicate N_law.length 0) ir_law).isSome = true := by decide +kernel
/-! ### the head -/
def fn : List He.DefD := [⟨("voters_of", none), "voters_of", "voters_of", defArgs (top 1), defBody (top 1), defScope (top 1), [], []⟩, ⟨("top_count", none), "top_count", "top_count", defArgs (top 3), defBody (top 3), defScope (top 3), [], []⟩, ⟨("top_counts", none), "top_counts", "top_counts", defArgs (top 4), defBody (top 4), defScope (top 4), [], []⟩, ⟨("is_ahead_always", none), "is_ahead_always", "is_ahead_always", defArgs (top 5), defBody (top 5), defScope (top 5), [], []⟩, ⟨("is_above_always", none), "is_above_always", "is_above_always", defArgs (top 6), defBody (top 6), defScope (top 6), [], []⟩, ⟨("never_winners", none), "never_winners", "never_winners", defArgs (top 7), defBody (top 7), defScope (top 7), [], []⟩, ⟨("is_thing_lot", none), "is_thing_lot", "is_thing_lot", defArgs (top 9), defBody (top 9), defScope (top 9), [], []⟩, ⟨("is_like_pair", none), "is_like_pair", "is_like_pair", defArgs (top 10), defBody (top 10), defScope (top 10), [], []⟩, ⟨("are_likes", none), "are_likes", "are_likes", defArgs (top 11), defBody (top 11), defScope (top 11), [], []⟩, ⟨("like_counts", none), "like_counts", "like_counts", defArgs (top 12), defBody (top 12), defScope (top 12), [], []⟩, ⟨("the_liked", none), "the_liked", "the_liked", defArgs (top 13), defBody (top 13), defScope (top 13), [], []⟩, ⟨("gathered", none), "gathered", "gathered", defArgs (top 14), defBody (top 14), defScope (top 14), [], []⟩, ⟨("likes_together", none), "likes_together", "likes_together", defArgs (top 15), defBody (top 15), defScope (top 15), [], []⟩, ⟨("likes_times", none), "likes_times", "likes_times", defArgs (top 16), defBody (top 16), defScope (top 16), [], []⟩, ⟨("lot_left", none), "lot_left", "lot_left", defArgs (top 17), defBody (top 17), defScope (top 17), [], []⟩, ⟨("turned_likes", none), "turned_likes", "turned_likes", defArgs (top 18), defBody (top 18), defScope (top 18), [], []⟩, ⟨("steps_of_counts", none), "steps_of_counts", "steps_of_counts", defArgs (top 19), defBody (top 19), defScope (top 19), [], []⟩, ⟨("more_like", none), "more_like", "more_like", defArgs (top 21), defBody (top 21), defScope (top 21), [], []⟩, ⟨("like_beats", none), "like_beats", "like_beats", defArgs (top 22), defBody (top 22), defScope (top 22), [], []⟩, ⟨("unbeaten", none), "unbeaten", "unbeaten", defArgs (top 23), defBody (top 23), defScope (top 23), [], []⟩, ⟨("scores_of", none), "scores_of", "scores_of", defArgs (top 25), defBody (top 25), defScope (top 25), [], []⟩, ⟨("point_winners", none), "point_winners", "point_winners", defArgs (top 26), defBody (top 26), defScope (top 26), [], []⟩, ⟨("gathered_votes", none), "gathered_votes", "gathered_votes", defArgs (top 27), defBody (top 27), defScope (top 27), [], []⟩, ⟨("turned_votes", none), "turned_votes", "turned_votes", defArgs (top 29), defBody (top 29), defScope (top 29), [], []⟩, ⟨("_law_source", none), "_law_source", "_law_source", defArgs (top 31), defBody (top 31), defScope (top 31), [], []⟩, ⟨("_law_pick", none), "_law_pick", "_law_pick", defArgs (top 32), defBody (top 32), defScope (top 32), [], []⟩, ⟨("_law_of", none), "_law_of", "_law_of", defArgs (top 33), defBody (top 33), defScope (top 33), [], []⟩, ⟨("_law_mixed", none), "_law_mixed", "_law_mixed", defArgs (top 34), defBody (top 34), defScope (top 34), [], []⟩, ⟨("_law_votes", none), "_law_votes", "_law_votes", defArgs (top 35), defBody (top 35), defScope (top 35), [], []⟩, ⟨("_law_scores", none), "_law_scores", "_law_scores", defArgs (top 36), defBody (top 36), defScope (top 36), [], []⟩, ⟨("_law_likes", none), "_law_likes", "_law_likes", defArgs (top 37), defBody (top 37), defScope (top 37), [], []⟩, ⟨("_law_counts", none), "_law_counts", "_law_counts", defArgs (top 38), defBody (top 38), defScope (top 38), [], []⟩, ⟨("_law_row_right", none), "_law_row_right", "_law_row_right", defArgs (top 39), defBody (top 39), defScope (top 39), [], []⟩, ⟨("_law_points_right", none), "_law_points_right", "_law_points_right", defArgs (top 40), defBody (top 40), defScope (top 40), [], []⟩, ⟨("law", none), "law", "law", defArgs (top 41), defBody (top 41), defScope (top 41), [], []⟩]
def fa : List He.Fa := [.glo "voters_of", .glo "top_count", .glo "top_counts", .glo "is_ahead_always", .glo "is_above_always", .glo "never_winners", .glo "is_thing_lot", .glo "is_like_pair", .glo "are_likes", .glo "like_counts", .glo "the_liked", .glo "gathered", .glo "likes_together", .glo "likes_times", .glo "lot_left", .glo "turned_likes", .glo "steps_of_counts", .glo "more_like", .glo "like_beats", .glo "unbeaten", .glo "scores_of", .glo "point_winners", .glo "gathered_votes", .glo "turned_votes", .glo "_law_source", .glo "_law_pick", .glo "_law_of", .glo "_law_mixed", .glo "_law_votes", .glo "_law_scores", .glo "_law_likes", .glo "_law_counts", .glo "_law_row_right", .glo "_law_points_right", .glo "law", .free "len", .free "sum", .free "max", .free "min", .free "abs", .free "int", .free "all", .free "any", .free "tuple", .free "list", .free "sorted", .free "dict", .free "range", .free "enumerate", .free "zip", .free "isinstance", .free "bool", .free "str"]
abbrev R : PySem.W.OpenRow := PySem.W.OpenLaw.row rw_
abbrev hk : PySem.W.Hook := He.hookD 4 fa fn
def ob (s : PySem.W.SharedT) : He.AlD := He.obsDG 4 fa fn (HandSHeadRun.getT s)
theorem ob_eq (s : PySem.W.SharedT) : ob s = hk.obs s.abs := He.obsDG_eq (HandSHeadRun.getT_eq s)
def loose0 : List PySem.Str := ["voters_of", "top_count", "top_counts", "is_ahead_always", "is_above_always", "never_winners", "is_thing_lot", "is_like_pair", "are_likes", "like_counts", "the_liked", "gathered", "likes_together", "likes_times", "lot_left", "turned_likes", "steps_of_counts", "more_like", "like_beats", "unbeaten", "scores_of", "point_winners", "gathered_votes", "turned_votes", "_law_source", "_law_pick", "_law_of", "_law_mixed", "_law_votes", "_law_scores"]
def loose1 : List PySem.Str := ["_law_likes", "_law_counts", "_law_row_right", "_law_points_right"]
abbrev loose : List PySem.Str := loose0 ++ loose1
theorem run (w : World) : HandSHeadRun.RunEq R (PySem.W.view R.prog [41]) hk ob 9000 loose w := by
  intro os
  kernel_rfl
section
variable {P : Program} {w : World} {K : PySem.W.Frag} {h : Heap} {mg : Str → Option Value} {base : Heap}
theorem blt (X : K.In h) (G : h.Ns mainGlobals mg) (c : He.SaysD fa fn K) : ∀ x ∈ bltNames, mg x = none := by
  intro x hx
  simp only [bltNames, List.mem_cons, List.not_mem_nil, or_false] at hx
  rcases hx with rfl | rfl | rfl | rfl | rfl | rfl | rfl | rfl | rfl | rfl | rfl | rfl | rfl | rfl | rfl | rfl | rfl | rfl
  · exact He.free_ok X G (c.fact 35 (f := .free "len") rfl)
  · exact He.free_ok X G (c.fact 36 (f := .free "sum") rfl)
  · exact He.free_ok X G (c.fact 37 (f := .free "max") rfl)
  · exact He.free_ok X G (c.fact 38 (f := .free "min") rfl)
  · exact He.free_ok X G (c.fact 39 (f := .free "abs") rfl)
  · exact He.free_ok X G (c.fact 40 (f := .free "int") rfl)
  · exact He.free_ok X G (c.fact 41 (f := .free "all") rfl)
  · exact He.free_ok X G (c.fact 42 (f := .free "any") rfl)
  · exact He.free_ok X G (c.fact 43 (f := .free "tuple") rfl)
  · exact He.free_ok X G (c.fact 44 (f := .free "list") rfl)
  · exact He.free_ok X G (c.fact 45 (f := .free "sorted") rfl)
  · exact He.free_ok X G (c.fact 46 (f := .free "dict") rfl)
  · exact He.free_ok X G (c.fact 47 (f := .free "range") rfl)
  · exact He.free_ok X G (c.fact 48 (f := .free "enumerate") rfl)
  · exact He.free_ok X G (c.fact 49 (f := .free "zip") rfl)
  · exact He.free_ok X G (c.fact 50 (f := .free "isinstance") rfl)
  · exact He.free_ok X G (c.fact 51 (f := .free "bool") rfl)
  · exact He.free_ok X G (c.fact 52 (f := .free "str") rfl)
theorem k_voters_of (X : K.In h) (G : h.Ns mainGlobals mg) (c : He.SaysD fa fn K) : GOk P w K mg base 1 g_voters_of := by
  have Gp : GOk P w K mg base 0 g0 := ⟨(fun _ _ _ z => by cases z), (fun _ _ _ z => by cases z), blt X G c⟩
  obtain ⟨fd, FD⟩ := c.def_ 0 (d := ⟨("voters_of", none), "voters_of", "voters_of", defArgs (top 1), defBody (top 1), defScope (top 1), [], []⟩) rfl
  obtain ⟨Tn, hT⟩ := Option.isSome_iff_exists.mp o_voters_of
  exact Gp.add (def_is Gp FD (He.glo_ok X G (c.fact 0 (f := .glo "voters_of") rfl)) (FD.bindsN fun _ _ _ _ _ _ us hl => match us, hl with | [_], _ => rfl) sc_voters_of m_voters_of hT) (defG.mono Gp.mono)
theorem k_top_count (X : K.In h) (G : h.Ns mainGlobals mg) (c : He.SaysD fa fn K) : GOk P w K mg base 2 g_top_count := by
  have Gp : GOk P w K mg base 1 g_voters_of := k_voters_of X G c
  obtain ⟨fd, FD⟩ := c.def_ 1 (d := ⟨("top_count", none), "top_count", "top_count", defArgs (top 3), defBody (top 3), defScope (top 3), [], []⟩) rfl
  obtain ⟨Tn, hT⟩ := Option.isSome_iff_exists.mp o_top_count
  exact Gp.add (def_is Gp FD (He.glo_ok X G (c.fact 1 (f := .glo "top_count") rfl)) (FD.bindsN fun _ _ _ _ _ _ us hl => match us, hl with | [_, _, _], _ => rfl) sc_top_count m_top_count hT) (defG.mono Gp.mono)
theorem k_top_counts (X : K.In h) (G : h.Ns mainGlobals mg) (c : He.SaysD fa fn K) : GOk P w K mg base 3 g_top_counts := by
  have Gp : GOk P w K mg base 2 g_top_count := k_top_count X G c
  obtain ⟨fd, FD⟩ := c.def_ 2 (d := ⟨("top_counts", none), "top_counts", "top_counts", defArgs (top 4), defBody (top 4), defScope (top 4), [], []⟩) rfl
  obtain ⟨Tn, hT⟩ := Option.isSome_iff_exists.mp o_top_counts
  exact Gp.add (def_is Gp FD (He.glo_ok X G (c.fact 2 (f := .glo "top_counts") rfl)) (FD.bindsN fun _ _ _ _ _ _ us hl => match us, hl with | [_], _ => rfl) sc_top_counts m_top_counts hT) (defG.mono Gp.mono)
theorem k_is_ahead_always (X : K.In h) (G : h.Ns mainGlobals mg) (c : He.SaysD fa fn K) : GOk P w K mg base 4 g_is_ahead_always := by
  have Gp : GOk P w K mg base 3 g_top_counts := k_top_counts X G c
  obtain ⟨fd, FD⟩ := c.def_ 3 (d := ⟨("is_ahead_always", none), "is_ahead_always", "is_ahead_always", defArgs (top 5), defBody (top 5), defScope (top 5), [], []⟩) rfl
  obtain ⟨Tn, hT⟩ := Option.isSome_iff_exists.mp o_is_ahead_always
  exact Gp.add (def_is Gp FD (He.glo_ok X G (c.fact 3 (f := .glo "is_ahead_always") rfl)) (FD.bindsN fun _ _ _ _ _ _ us hl => match us, hl with | [_, _, _], _ => rfl) sc_is_ahead_always m_is_ahead_always hT) (defG.mono Gp.mono)
theorem k_is_above_always (X : K.In h) (G : h.Ns mainGlobals mg) (c : He.SaysD fa fn K) : GOk P w K mg base 5 g_is_above_always := by
  have Gp : GOk P w K mg base 4 g_is_ahead_always := k_is_ahead_always X G c
  obtain ⟨fd, FD⟩ := c.def_ 4 (d := ⟨("is_above_always", none), "is_above_always", "is_above_always", defArgs (top 6), defBody (top 6), defScope (top 6), [], []⟩) rfl
  obtain ⟨Tn, hT⟩ := Option.isSome_iff_exists.mp o_is_above_always
  exact Gp.add (def_is Gp FD (He.glo_ok X G (c.fact 4 (f := .glo "is_above_always") rfl)) (FD.bindsN fun _ _ _ _ _ _ us hl => match us, hl with | [_, _, _], _ => rfl) sc_is_above_always m_is_above_always hT) (defG.mono Gp.mono)
theorem k_never_winners (X : K.In h) (G : h.Ns mainGlobals mg) (c : He.SaysD fa fn K) : GOk P w K mg base 6 g_never_winners := by
  have Gp : GOk P w K mg base 5 g_is_above_always := k_is_above_always X G c
  obtain ⟨fd, FD⟩ := c.def_ 5 (d := ⟨("never_winners", none), "never_winners", "never_winners", defArgs (top 7), defBody (top 7), defScope (top 7), [], []⟩) rfl
  obtain ⟨Tn, hT⟩ := Option.isSome_iff_exists.mp o_never_winners
  exact Gp.add (def_is Gp FD (He.glo_ok X G (c.fact 5 (f := .glo "never_winners") rfl)) (FD.bindsN fun _ _ _ _ _ _ us hl => match us, hl with | [_], _ => rfl) sc_never_winners m_never_winners hT) (defG.mono Gp.mono)
theorem k_is_thing_lot (X : K.In h) (G : h.Ns mainGlobals mg) (c : He.SaysD fa fn K) : GOk P w K mg base 7 g_is_thing_lot := by
  have Gp : GOk P w K mg base 6 g_never_winners := k_never_winners X G c
  obtain ⟨fd, FD⟩ := c.def_ 6 (d := ⟨("is_thing_lot", none), "is_thing_lot", "is_thing_lot", defArgs (top 9), defBody (top 9), defScope (top 9), [], []⟩) rfl
  obtain ⟨Tn, hT⟩ := Option.isSome_iff_exists.mp o_is_thing_lot
  exact Gp.add (def_is Gp FD (He.glo_ok X G (c.fact 6 (f := .glo "is_thing_lot") rfl)) (FD.bindsN fun _ _ _ _ _ _ us hl => match us, hl with | [_, _], _ => rfl) sc_is_thing_lot m_is_thing_lot hT) (defG.mono Gp.mono)
theorem k_is_like_pair (X : K.In h) (G : h.Ns mainGlobals mg) (c : He.SaysD fa fn K) : GOk P w K mg base 8 g_is_like_pair := by
  have Gp : GOk P w K mg base 7 g_is_thing_lot := k_is_thing_lot X G c
  obtain ⟨fd, FD⟩ := c.def_ 7 (d := ⟨("is_like_pair", none), "is_like_pair", "is_like_pair", defArgs (top 10), defBody (top 10), defScope (top 10), [], []⟩) rfl
  obtain ⟨Tn, hT⟩ := Option.isSome_iff_exists.mp o_is_like_pair
  exact Gp.add (def_is Gp FD (He.glo_ok X G (c.fact 7 (f := .glo "is_like_pair") rfl)) (FD.bindsN fun _ _ _ _ _ _ us hl => match us, hl with | [_, _], _ => rfl) sc_is_like_pair m_is_like_pair hT) (defG.mono Gp.mono)
theorem k_are_likes (X : K.In h) (G : h.Ns mainGlobals mg) (c : He.SaysD fa fn K) : GOk P w K mg base 9 g_are_likes := by
  have Gp : GOk P w K mg base 8 g_is_like_pair := k_is_like_pair X G c
  obtain ⟨fd, FD⟩ := c.def_ 8 (d := ⟨("are_likes", none), "are_likes", "are_likes", defArgs (top 11), defBody (top 11), defScope (top 11), [], []⟩) rfl
  obtain ⟨Tn, hT⟩ := Option.isSome_iff_exists.mp o_are_likes
  exact Gp.add (def_is Gp FD (He.glo_ok X G (c.fact 8 (f := .glo "are_likes") rfl)) (FD.bindsN fun _ _ _ _ _ _ us hl => match us, hl with | [_, _], _ => rfl) sc_are_likes m_are_likes hT) (defG.mono Gp.mono)
theorem k_like_counts (X : K.In h) (G : h.Ns mainGlobals mg) (c : He.SaysD fa fn K) : GOk P w K mg base 10 g_like_counts := by
  have Gp : GOk P w K mg base 9 g_are_likes := k_are_likes X G c
  obtain ⟨fd, FD⟩ := c.def_ 9 (d := ⟨("like_counts", none), "like_counts", "like_counts", defArgs (top 12), defBody (top 12), defScope (top 12), [], []⟩) rfl
  obtain ⟨Tn, hT⟩ := Option.isSome_iff_exists.mp o_like_counts
  exact Gp.add (def_is Gp FD (He.glo_ok X G (c.fact 9 (f := .glo "like_counts") rfl)) (FD.bindsN fun _ _ _ _ _ _ us hl => match us, hl with | [_, _], _ => rfl) sc_like_counts m_like_counts hT) (defG.mono Gp.mono)
theorem k_the_liked (X : K.In h) (G : h.Ns mainGlobals mg) (c : He.SaysD fa fn K) : GOk P w K mg base 11 g_the_liked := by
  have Gp : GOk P w K mg base 10 g_like_counts := k_like_counts X G c
  obtain ⟨fd, FD⟩ := c.def_ 10 (d := ⟨("the_liked", none), "the_liked", "the_liked", defArgs (top 13), defBody (top 13), defScope (top 13), [], []⟩) rfl
  obtain ⟨Tn, hT⟩ := Option.isSome_iff_exists.mp o_the_liked
  exact Gp.add (def_is Gp FD (He.glo_ok X G (c.fact 10 (f := .glo "the_liked") rfl)) (FD.bindsN fun _ _ _ _ _ _ us hl => match us, hl with | [_, _], _ => rfl) sc_the_liked m_the_liked hT) (defG.mono Gp.mono)
theorem k_gathered (X : K.In h) (G : h.Ns mainGlobals mg) (c : He.SaysD fa fn K) : GOk P w K mg base 12 g_gathered := by
  have Gp : GOk P w K mg base 11 g_the_liked := k_the_liked X G c
  obtain ⟨fd, FD⟩ := c.def_ 11 (d := ⟨("gathered", none), "gathered", "gathered", defArgs (top 14), defBody (top 14), defScope (top 14), [], []⟩) rfl
  obtain ⟨Tn, hT⟩ := Option.isSome_iff_exists.mp o_gathered
  exact Gp.add (def_is Gp FD (He.glo_ok X G (c.fact 11 (f := .glo "gathered") rfl)) (FD.bindsN fun _ _ _ _ _ _ us hl => match us, hl with | [_], _ => rfl) sc_gathered m_gathered hT) (defG.mono Gp.mono)
theorem k_likes_together (X : K.In h) (G : h.Ns mainGlobals mg) (c : He.SaysD fa fn K) : GOk P w K mg base 13 g_likes_together := by
  have Gp : GOk P w K mg base 12 g_gathered := k_gathered X G c
  obtain ⟨fd, FD⟩ := c.def_ 12 (d := ⟨("likes_together", none), "likes_together", "likes_together", defArgs (top 15), defBody (top 15), defScope (top 15), [], []⟩) rfl
  obtain ⟨Tn, hT⟩ := Option.isSome_iff_exists.mp o_likes_together
  exact Gp.add (def_is Gp FD (He.glo_ok X G (c.fact 12 (f := .glo "likes_together") rfl)) (FD.bindsN fun _ _ _ _ _ _ us hl => match us, hl with | [_, _], _ => rfl) sc_likes_together m_likes_together hT) (defG.mono Gp.mono)
theorem k_likes_times (X : K.In h) (G : h.Ns mainGlobals mg) (c : He.SaysD fa fn K) : GOk P w K mg base 14 g_likes_times := by
  have Gp : GOk P w K mg base 13 g_likes_together := k_likes_together X G c
  obtain ⟨fd, FD⟩ := c.def_ 13 (d := ⟨("likes_times", none), "likes_times", "likes_times", defArgs (top 16), defBody (top 16), defScope (top 16), [], []⟩) rfl
  obtain ⟨Tn, hT⟩ := Option.isSome_iff_exists.mp o_likes_times
  exact Gp.add (def_is Gp FD (He.glo_ok X G (c.fact 13 (f := .glo "likes_times") rfl)) (FD.bindsN fun _ _ _ _ _ _ us hl => match us, hl with | [_, _], _ => rfl) sc_likes_times m_likes_times hT) (defG.mono Gp.mono)
theorem k_lot_left (X : K.In h) (G : h.Ns mainGlobals mg) (c : He.SaysD fa fn K) : GOk P w K mg base 15 g_lot_left := by
  have Gp : GOk P w K mg base 14 g_likes_times := k_likes_times X G c
  obtain ⟨fd, FD⟩ := c.def_ 14 (d := ⟨("lot_left", none), "lot_left", "lot_left", defArgs (top 17), defBody (top 17), defScope (top 17), [], []⟩) rfl
  obtain ⟨Tn, hT⟩ := Option.isSome_iff_exists.mp o_lot_left
  exact Gp.add (def_is Gp FD (He.glo_ok X G (c.fact 14 (f := .glo "lot_left") rfl)) (FD.bindsN fun _ _ _ _ _ _ us hl => match us, hl with | [_, _], _ => rfl) sc_lot_left m_lot_left hT) (defG.mono Gp.mono)
theorem k_turned_likes (X : K.In h) (G : h.Ns mainGlobals mg) (c : He.SaysD fa fn K) : GOk P w K mg base 16 g_turned_likes := by
  have Gp : GOk P w K mg base 15 g_lot_left := k_lot_left X G c
  obtain ⟨fd, FD⟩ := c.def_ 15 (d := ⟨("turned_likes", none), "turned_likes", "turned_likes", defArgs (top 18), defBody (top 18), defScope (top 18), [], []⟩) rfl
  obtain ⟨Tn, hT⟩ := Option.isSome_iff_exists.mp o_turned_likes
  exact Gp.add (def_is Gp FD (He.glo_ok X G (c.fact 15 (f := .glo "turned_likes") rfl)) (FD.bindsN fun _ _ _ _ _ _ us hl => match us, hl with | [_, _], _ => rfl) sc_turned_likes m_turned_likes hT) (defG.mono Gp.mono)
theorem k_steps_of_counts (X : K.In h) (G : h.Ns mainGlobals mg) (c : He.SaysD fa fn K) : GOk P w K mg base 17 g_steps_of_counts := by
  have Gp : GOk P w K mg base 16 g_turned_likes := k_turned_likes X G c
  obtain ⟨fd, FD⟩ := c.def_ 16 (d := ⟨("steps_of_counts", none), "steps_of_counts", "steps_of_counts", defArgs (top 19), defBody (top 19), defScope (top 19), [], []⟩) rfl
  obtain ⟨Tn, hT⟩ := Option.isSome_iff_exists.mp o_steps_of_counts
  exact Gp.add (def_is Gp FD (He.glo_ok X G (c.fact 16 (f := .glo "steps_of_counts") rfl)) (FD.bindsN fun _ _ _ _ _ _ us hl => match us, hl with | [_], _ => rfl) sc_steps_of_counts m_steps_of_counts hT) (defG.mono Gp.mono)
theorem k_more_like (X : K.In h) (G : h.Ns mainGlobals mg) (c : He.SaysD fa fn K) : GOk P w K mg base 18 g_more_like := by
  have Gp : GOk P w K mg base 17 g_steps_of_counts := k_steps_of_counts X G c
  obtain ⟨fd, FD⟩ := c.def_ 17 (d := ⟨("more_like", none), "more_like", "more_like", defArgs (top 21), defBody (top 21), defScope (top 21), [], []⟩) rfl
  obtain ⟨Tn, hT⟩ := Option.isSome_iff_exists.mp o_more_like
  exact Gp.add (def_is Gp FD (He.glo_ok X G (c.fact 17 (f := .glo "more_like") rfl)) (FD.bindsN fun _ _ _ _ _ _ us hl => match us, hl with | [_, _, _], _ => rfl) sc_more_like m_more_like hT) (defG.mono Gp.mono)
theorem k_like_beats (X : K.In h) (G : h.Ns mainGlobals mg) (c : He.SaysD fa fn K) : GOk P w K mg base 19 g_like_beats := by
  have Gp : GOk P w K mg base 18 g_more_like := k_more_like X G c
  obtain ⟨fd, FD⟩ := c.def_ 18 (d := ⟨("like_beats", none), "like_beats", "like_beats", defArgs (top 22), defBody (top 22), defScope (top 22), [], []⟩) rfl
  obtain ⟨Tn, hT⟩ := Option.isSome_iff_exists.mp o_like_beats
  exact Gp.add (def_is Gp FD (He.glo_ok X G (c.fact 18 (f := .glo "like_beats") rfl)) (FD.bindsN fun _ _ _ _ _ _ us hl => match us, hl with | [_, _], _ => rfl) sc_like_beats m_like_beats hT) (defG.mono Gp.mono)
theorem k_unbeaten (X : K.In h) (G : h.Ns mainGlobals mg) (c : He.SaysD fa fn K) : GOk P w K mg base 20 g_unbeaten := by
  have Gp : GOk P w K mg base 19 g_like_beats := k_like_beats X G c
  obtain ⟨fd, FD⟩ := c.def_ 19 (d := ⟨("unbeaten", none), "unbeaten", "unbeaten", defArgs (top 23), defBody (top 23), defScope (top 23), [], []⟩) rfl
  obtain ⟨Tn, hT⟩ := Option.isSome_iff_exists.mp o_unbeaten
  exact Gp.add (def_is Gp FD (He.glo_ok X G (c.fact 19 (f := .glo "unbeaten") rfl)) (FD.bindsN fun _ _ _ _ _ _ us hl => match us, hl with | [_, _], _ => rfl) sc_unbeaten m_unbeaten hT) (defG.mono Gp.mono)
theorem k_scores_of (X : K.In h) (G : h.Ns mainGlobals mg) (c : He.SaysD fa fn K) : GOk P w K mg base 21 g_scores_of := by
  have Gp : GOk P w K mg base 20 g_unbeaten := k_unbeaten X G c
  obtain ⟨fd, FD⟩ := c.def_ 20 (d := ⟨("scores_of", none), "scores_of", "scores_of", defArgs (top 25), defBody (top 25), defScope (top 25), [], []⟩) rfl
  obtain ⟨Tn, hT⟩ := Option.isSome_iff_exists.mp o_scores_of
  exact Gp.add (def_is Gp FD (He.glo_ok X G (c.fact 20 (f := .glo "scores_of") rfl)) (FD.bindsN fun _ _ _ _ _ _ us hl => match us, hl with | [_, _], _ => rfl) sc_scores_of m_scores_of hT) (defG.mono Gp.mono)
theorem k_point_winners (X : K.In h) (G : h.Ns mainGlobals mg) (c : He.SaysD fa fn K) : GOk P w K mg base 22 g_point_winners := by
  have Gp : GOk P w K mg base 21 g_scores_of := k_scores_of X G c
  obtain ⟨fd, FD⟩ := c.def_ 21 (d := ⟨("point_winners", none), "point_winners", "point_winners", defArgs (top 26), defBody (top 26), defScope (top 26), [], []⟩) rfl
  obtain ⟨Tn, hT⟩ := Option.isSome_iff_exists.mp o_point_winners
  exact Gp.add (def_is Gp FD (He.glo_ok X G (c.fact 21 (f := .glo "point_winners") rfl)) (FD.bindsN fun _ _ _ _ _ _ us hl => match us, hl with | [_, _], _ => rfl) sc_point_winners m_point_winners hT) (defG.mono Gp.mono)
theorem k_gathered_votes (X : K.In h) (G : h.Ns mainGlobals mg) (c : He.SaysD fa fn K) : GOk P w K mg base 23 g_gathered_votes := by
  have Gp : GOk P w K mg base 22 g_point_winners := k_point_winners X G c
  obtain ⟨fd, FD⟩ := c.def_ 22 (d := ⟨("gathered_votes", none), "gathered_votes", "gathered_votes", defArgs (top 27), defBody (top 27), defScope (top 27), [], []⟩) rfl
  obtain ⟨Tn, hT⟩ := Option.isSome_iff_exists.mp o_gathered_votes
  exact Gp.add (def_is Gp FD (He.glo_ok X G (c.fact 22 (f := .glo "gathered_votes") rfl)) (FD.bindsN fun _ _ _ _ _ _ us hl => match us, hl with | [_], _ => rfl) sc_gathered_votes m_gathered_votes hT) (defG.mono Gp.mono)
theorem k_turned_votes (X : K.In h) (G : h.Ns mainGlobals mg) (c : He.SaysD fa fn K) : GOk P w K mg base 24 g_turned_votes := by
  have Gp : GOk P w K mg base 23 g_gathered_votes := k_gathered_votes X G c
  obtain ⟨fd, FD⟩ := c.def_ 23 (d := ⟨("turned_votes", none), "turned_votes", "turned_votes", defArgs (top 29), defBody (top 29), defScope (top 29), [], []⟩) rfl
  obtain ⟨Tn, hT⟩ := Option.isSome_iff_exists.mp o_turned_votes
  exact Gp.add (def_is Gp FD (He.glo_ok X G (c.fact 23 (f := .glo "turned_votes") rfl)) (FD.bindsN fun _ _ _ _ _ _ us hl => match us, hl with | [_], _ => rfl) sc_turned_votes m_turned_votes hT) (defG.mono Gp.mono)
theorem k__law_pick (X : K.In h) (G : h.Ns mainGlobals mg) (c : He.SaysD fa fn K) : GOk P w K mg base 25 g__law_pick := by
  have Gp : GOk P w K mg base 24 g_turned_votes := k_turned_votes X G c
  obtain ⟨fd, FD⟩ := c.def_ 25 (d := ⟨("_law_pick", none), "_law_pick", "_law_pick", defArgs (top 32), defBody (top 32), defScope (top 32), [], []⟩) rfl
  obtain ⟨Tn, hT⟩ := Option.isSome_iff_exists.mp o__law_pick
  exact Gp.add (def_is Gp FD (He.glo_ok X G (c.fact 25 (f := .glo "_law_pick") rfl)) (FD.bindsN fun _ _ _ _ _ _ us hl => match us, hl with | [_, _], _ => rfl) sc__law_pick m__law_pick hT) (defG.mono Gp.mono)
theorem k__law_of (X : K.In h) (G : h.Ns mainGlobals mg) (c : He.SaysD fa fn K) : GOk P w K mg base 26 g__law_of := by
  have Gp : GOk P w K mg base 25 g__law_pick := k__law_pick X G c
  obtain ⟨fd, FD⟩ := c.def_ 26 (d := ⟨("_law_of", none), "_law_of", "_law_of", defArgs (top 33), defBody (top 33), defScope (top 33), [], []⟩) rfl
  obtain ⟨Tn, hT⟩ := Option.isSome_iff_exists.mp o__law_of
  exact Gp.add (def_is Gp FD (He.glo_ok X G (c.fact 26 (f := .glo "_law_of") rfl)) (FD.bindsN fun _ _ _ _ _ _ us hl => match us, hl with | [_, _], _ => rfl) sc__law_of m__law_of hT) (defG.mono Gp.mono)
theorem k__law_mixed (X : K.In h) (G : h.Ns mainGlobals mg) (c : He.SaysD fa fn K) : GOk P w K mg base 27 g__law_mixed := by
  have Gp : GOk P w K mg base 26 g__law_of := k__law_of X G c
  obtain ⟨fd, FD⟩ := c.def_ 27 (d := ⟨("_law_mixed", none), "_law_mixed", "_law_mixed", defArgs (top 34), defBody (top 34), defScope (top 34), [], []⟩) rfl
  obtain ⟨Tn, hT⟩ := Option.isSome_iff_exists.mp o__law_mixed
  exact Gp.add (def_is Gp FD (He.glo_ok X G (c.fact 27 (f := .glo "_law_mixed") rfl)) (FD.bindsN fun _ _ _ _ _ _ us hl => match us, hl with | [_, _], _ => rfl) sc__law_mixed m__law_mixed hT) (defG.mono Gp.mono)
theorem k__law_votes (X : K.In h) (G : h.Ns mainGlobals mg) (c : He.SaysD fa fn K) : GOk P w K mg base 28 g__law_votes := by
  have Gp : GOk P w K mg base 27 g__law_mixed := k__law_mixed X G c
  obtain ⟨fd, FD⟩ := c.def_ 28 (d := ⟨("_law_votes", none), "_law_votes", "_law_votes", defArgs (top 35), defBody (top 35), defScope (top 35), [], []⟩) rfl
  obtain ⟨Tn, hT⟩ := Option.isSome_iff_exists.mp o__law_votes
  exact Gp.add (def_is Gp FD (He.glo_ok X G (c.fact 28 (f := .glo "_law_votes") rfl)) (FD.bindsN fun _ _ _ _ _ _ us hl => match us, hl with | [_, _, _], _ => rfl) sc__law_votes m__law_votes hT) (defG.mono Gp.mono)
theorem k__law_scores (X : K.In h) (G : h.Ns mainGlobals mg) (c : He.SaysD fa fn K) : GOk P w K mg base 29 g__law_scores := by
  have Gp : GOk P w K mg base 28 g__law_votes := k__law_votes X G c
  obtain ⟨fd, FD⟩ := c.def_ 29 (d := ⟨("_law_scores", none), "_law_scores", "_law_scores", defArgs (top 36), defBody (top 36), defScope (top 36), [], []⟩) rfl
  obtain ⟨Tn, hT⟩ := Option.isSome_iff_exists.mp o__law_scores
  exact Gp.add (def_is Gp FD (He.glo_ok X G (c.fact 29 (f := .glo "_law_scores") rfl)) (FD.bindsN fun _ _ _ _ _ _ us hl => match us, hl with | [_, _], _ => rfl) sc__law_scores m__law_scores hT) (defG.mono Gp.mono)
theorem k__law_likes (X : K.In h) (G : h.Ns mainGlobals mg) (c : He.SaysD fa fn K) : GOk P w K mg base 30 g__law_likes := by
  have Gp : GOk P w K mg base 29 g__law_scores := k__law_scores X G c
  obtain ⟨fd, FD⟩ := c.def_ 30 (d := ⟨("_law_likes", none), "_law_likes", "_law_likes", defArgs (top 37), defBody (top 37), defScope (top 37), [], []⟩) rfl
  obtain ⟨Tn, hT⟩ := Option.isSome_iff_exists.mp o__law_likes
  exact Gp.add (def_is Gp FD (He.glo_ok X G (c.fact 30 (f := .glo "_law_likes") rfl)) (FD.bindsN fun _ _ _ _ _ _ us hl => match us, hl with | [_, _], _ => rfl) sc__law_likes m__law_likes hT) (defG.mono Gp.mono)
theorem k__law_counts (X : K.In h) (G : h.Ns mainGlobals mg) (c : He.SaysD fa fn K) : GOk P w K mg base 31 g__law_counts := by
  have Gp : GOk P w K mg base 30 g__law_likes := k__law_likes X G c
  obtain ⟨fd, FD⟩ := c.def_ 31 (d := ⟨("_law_counts", none), "_law_counts", "_law_counts", defArgs (top 38), defBody (top 38), defScope (top 38), [], []⟩) rfl
  obtain ⟨Tn, hT⟩ := Option.isSome_iff_exists.mp o__law_counts
  exact Gp.add (def_is Gp FD (He.glo_ok X G (c.fact 31 (f := .glo "_law_counts") rfl)) (FD.bindsN fun _ _ _ _ _ _ us hl => match us, hl with | [_, _], _ => rfl) sc__law_counts m__law_counts hT) (defG.mono Gp.mono)
theorem k__law_row_right (X : K.In h) (G : h.Ns mainGlobals mg) (c : He.SaysD fa fn K) : GOk P w K mg base 32 g__law_row_right := by
  have Gp : GOk P w K mg base 31 g__law_counts := k__law_counts X G c
  obtain ⟨fd, FD⟩ := c.def_ 32 (d := ⟨("_law_row_right", none), "_law_row_right", "_law_row_right", defArgs (top 39), defBody (top 39), defScope (top 39), [], []⟩) rfl
  obtain ⟨Tn, hT⟩ := Option.isSome_iff_exists.mp o__law_row_right
  exact Gp.add (def_is Gp FD (He.glo_ok X G (c.fact 32 (f := .glo "_law_row_right") rfl)) (FD.bindsN fun _ _ _ _ _ _ us hl => match us, hl with | [_, _, _, _], _ => rfl) sc__law_row_right m__law_row_right hT) (defG.mono Gp.mono)
theorem k__law_points_right (X : K.In h) (G : h.Ns mainGlobals mg) (c : He.SaysD fa fn K) : GOk P w K mg base 33 g__law_points_right := by
  have Gp : GOk P w K mg base 32 g__law_row_right := k__law_row_right X G c
  obtain ⟨fd, FD⟩ := c.def_ 33 (d := ⟨("_law_points_right", none), "_law_points_right", "_law_points_right", defArgs (top 40), defBody (top 40), defScope (top 40), [], []⟩) rfl
  obtain ⟨Tn, hT⟩ := Option.isSome_iff_exists.mp o__law_points_right
  exact Gp.add (def_is Gp FD (He.glo_ok X G (c.fact 33 (f := .glo "_law_points_right") rfl)) (FD.bindsN fun _ _ _ _ _ _ us hl => match us, hl with | [_, _, _, _], _ => rfl) sc__law_points_right m__law_points_right hT) (defG.mono Gp.mono)
theorem facts {f : Addr} (hl : LawHolds) (X : K.In h) (G : h.Ns mainGlobals mg) (hfa : mg ("law" : Str) = some (.ref f)) (c : He.SaysD fa fn K) :
    ∃ fd : FuncData, (∀ (s : Shared) (v : Value), BindsTo s fd ⟨[v], []⟩ [("script", v)]) ∧ ∀ base : Heap, K.In base → base.Ns mainGlobals mg → FnOk P w K mg base CX0 34 f fd ["script"] (spLaw K) := by
  obtain ⟨fds, FS⟩ := c.def_ 24 (d := ⟨("_law_source", none), "_law_source", "_law_source", defArgs (top 31), defBody (top 31), defScope (top 31), [], []⟩) rfl
  obtain ⟨fd, FD⟩ := c.def_ 34 (d := ⟨("law", none), "law", "law", defArgs (top 41), defBody (top 41), defScope (top 41), [], []⟩) rfl
  have e := hfa.symm.trans (He.glo_ok X G (c.fact 34 (f := .glo "law") rfl))
  cases e
  have b := FunD.bindsA (ps := ["script"]) FD fun _ _ _ _ _ _ us hl => match us, hl with | [_], _ => rfl
  refine ⟨fd, fun s v => b s [v] rfl, fun base _ _ => ?_⟩
  have Gp : GOk P w K mg base 33 g__law_points_right := k__law_points_right X G c
  obtain ⟨Tn, hT⟩ := Option.isSome_iff_exists.mp o_law
  have hs : FnOk P w K mg base CX0 1 _ fds ["script"] (spSource K) := source_is (k := 0) (is := 0) (im := 1) (ic := 2) (A := 83) (B := 40503) (D := 59) (E := 23) (F := 2147483629) (l0 := 1) Gp.blt FS sc__law_source rfl (by decide) (by decide) (by decide) (by decide) rfl (by decide) (by decide) (by decide) (by decide) (by decide) m__law_source
  exact law_is Gp FD sc_law rfl (hs.mono (by decide)) (He.glo_ok X G (c.fact 24 (f := .glo "_law_source") rfl)) FS.kp (FS.bindsN fun _ _ _ _ _ _ us hl => match us, hl with | [_], _ => rfl) (by decide) m_law hT hl
end
end R85

open PySem PySem.W PySem.Calls PyProof.Rows
theorem PySem.Challenge.cw_chosenbymany_k85_whole_first_places_as_l_holds : PySem.Challenge.rw_chosenbymany_k85_whole_first_places_as_l.Holds := by
  w_on; o_law
  refine HandSHeadRun.head_any (r := OpenLaw.row PySem.Challenge.rw_chosenbymany_k85_whole_first_places_as_l) (q := view (OpenLaw.row PySem.Challenge.rw_chosenbymany_k85_whole_first_places_as_l).prog [41]) (H := R85.hk) (ob := R85.ob) (M := 9000) (loose := R85.loose) (d := HandSHeadRun.topDef (OpenLaw.row PySem.Challenge.rw_chosenbymany_k85_whole_first_places_as_l).prog 41) (kwd := []) R85.ob_eq
    (by kernel_rfl) (fun s => by kernel_rfl) R85.run (by kernel_rfl) (by kernel_rfl) (by kernel_rfl) (by rfl) (by first | assumption | decide +kernel) (by decide +kernel) ⟨rfl, rfl, rfl, rfl, rfl, by decide +kernel⟩ ?hw ?hc
  case hw => w_witness2
  case hc =>
    refine L2.walk_ofE (l := PySem.Challenge.rw_chosenbymany_k85_whole_first_places_as_l) (n := 63) (k := 34) (x := "script") (CX := L2.CX0) rfl (by decide) (by kernel_rfl) ⟨rfl, by decide, by decide⟩ ?F (fun _ _ _ _ z => z)
    intro w mg fa h Y G hmg0
    obtain ⟨K, KX, c⟩ := Y
    have hmg : mg ("law" : PySem.Str) = some (.ref fa) := by
      have e : (HandSHeadRun.topDef (OpenLaw.row PySem.Challenge.rw_chosenbymany_k85_whole_first_places_as_l).prog 41).name = ("law" : PySem.Str) := by kernel_rfl
      rw [← e]
      exact hmg0
    obtain ⟨fd, hb, hF⟩ := R85.facts (P := (PySem.Challenge.rw_chosenbymany_k85_whole_first_places_as_l).prog) (w := w) R85.law_holds KX G hmg c
    exact ⟨K, fd, DL.spLaw K, KX, hb, fun H a ns hl _ hS => ⟨a, rfl, ⟨ns, Nat.lt_of_le_of_lt hl (by decide), hS⟩, fun _ => rfl⟩, hF⟩
