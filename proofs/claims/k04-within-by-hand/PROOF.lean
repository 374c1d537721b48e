import PyProof.Rows.All
import Wide.All
import OpenK.AllK
import Wide.FinOn
import KE.KStateDown
import HandS.Head0
import HandS.Head1
import HandS.Head2
import HandS.HeadEnd
import HandS.HeadWalk
import HandS.HeadHook1
import HandS.HeadHook2
import HandS.HeadHook3
import HandS.HeadHook4
import HandS.ForMost
import HandS.ForExc
import HandS.More
import HandS.Flow
import HandS.Style
import HandS.Deep
import HandS.Conv
import HandS.Wide
import HandS.TupAny
import HandS.Zip
import HandS.Defaults
import KE.KDictKeyed
import KE.KeyNested
import KE.SortData
import HandS.Flt
import HandS.IsInst
import HandS.ExcOwn
import HandS.WordsExc
import PyProof.ExcBaseAll.ValueError
import KE.KDictZip
import HandS.ExcValue
import PyProof.ListNew
import HandS.ExcIs
import HandS.Ends
import HandS.EndBits
import PyProof.ReprRoads
import KE.KDictSum
import PyProof.Transfer
import PySem.Challenge.RW_turnbridge_k04_within_by_hand
set_option Elab.async false
set_option linter.all false
set_option maxRecDepth 100000
set_option maxHeartbeats 0
/-! Data values, what stands for what, the logical heap of the objects that change. -/
namespace Tb
open PySem PySem.Spec PyProof.Rows L2

/-- the program, the world, the written part -/
structure Gx where
  P : Program
  w : World
  K : PySem.W.Frag

/-- a value as data; loc n: the n-th object of the logical heap -/
inductive D where
  | non | bl (b : Bool) | int (i : Int) | str (s : Str)
  | tup (xs : List D) | lst (xs : List D) | scr (xs : List D) | dic (ks us : List D) | loc (n : Nat)
/-- an object that may change -/
inductive LO where
  | lst (xs : List D) | dic (ks us : List D) | ins (c : Str) (fs : List (Str × D))
abbrev LH := List LO

def mapO {α β : Type} (f : α → Option β) : List α → Option (List β)
  | [] => some []
  | x :: xs => match f x with
    | some y => (match mapO f xs with
      | some ys => some (y :: ys)
      | none => none)
    | none => none
theorem mapO_cons {α β : Type} {f : α → Option β} {x : α} {xs : List α} {r : List β} (h : mapO f (x :: xs) = some r) : ∃ y ys, f x = some y ∧ mapO f xs = some ys ∧ r = y :: ys := by
  unfold mapO at h
  cases e : f x with
  | none => rw [e] at h; cases h
  | some y =>
    rw [e] at h
    cases e2 : mapO f xs with
    | none => rw [e2] at h; cases h
    | some ys => rw [e2] at h; cases h; exact ⟨y, ys, rfl, rfl, rfl⟩
theorem mapO_nil {α β : Type} {f : α → Option β} {r : List β} (h : mapO f [] = some r) : r = [] := by cases h; rfl
theorem mapO_length {α β : Type} {f : α → Option β} : ∀ {xs : List α} {r : List β}, mapO f xs = some r → r.length = xs.length
  | [], _, h => by cases h; rfl
  | x :: xs, _, h => by
    obtain ⟨y, ys, _, h2, rfl⟩ := mapO_cons h
    rw [List.length_cons, List.length_cons, mapO_length h2]

/-- a key of a dict -/
def toKey : Nat → D → Option NestedKey
  | 0, _ => none
  | n + 1, d => match d with
    | .non => some .none
    | .bl b => some (.num (if b = true then 1 else 0))
    | .int i => some (.num i)
    | .str s => some (.text s)
    | .tup ds => (match mapO (toKey n) ds with
      | some ks => some (.tup ks)
      | none => none)
    | _ => none
/-- the list at a location -/
def lstAt (lh : LH) (n : Nat) : Option (List D) := match lh[n]? with
  | some (.lst xs) => some xs
  | _ => none
/-- all of it as plain data -/
def toP (lh : LH) : Nat → D → Option PyData
  | 0, _ => none
  | n + 1, d => match d with
    | .non => some .none
    | .bl b => some (.bool b)
    | .int i => some (.int i)
    | .str s => some (.str s)
    | .tup ds => (match mapO (toP lh n) ds with
      | some ks => some (.tuple ks)
      | none => none)
    | .lst ds => (match mapO (toP lh n) ds with
      | some ks => some (.list ks)
      | none => none)
    | .scr ds => (match mapO (toP lh n) ds with
      | some ks => some (.list ks)
      | none => none)
    | .loc a => (match lstAt lh a with
      | some ds => (match mapO (toP lh n) ds with
        | some ks => some (.list ks)
        | none => none)
      | none => none)
    | .dic _ _ => none
/-- no location within: as it stands, told by value -/
def frz (lh : LH) : Nat → D → Option D
  | 0, _ => none
  | n + 1, d => match d with
    | .non => some .non
    | .bl b => some (.bl b)
    | .int i => some (.int i)
    | .str s => some (.str s)
    | .tup ds => (match mapO (frz lh n) ds with
      | some ks => some (.tup ks)
      | none => none)
    | .lst ds => (match mapO (frz lh n) ds with
      | some ks => some (.lst ks)
      | none => none)
    | .scr ds => (match mapO (frz lh n) ds with
      | some ks => some (.scr ks)
      | none => none)
    | .dic ks us => (match mapO (frz lh n) us with
      | some us => some (.dic ks us)
      | none => none)
    | .loc a => (match lh[a]? with
      | some (.lst ds) => (match mapO (frz lh n) ds with
        | some ks => some (.lst ks)
        | none => none)
      | some (.dic ks us) => (match mapO (frz lh n) us with
        | some us => some (.dic ks us)
        | none => none)
      | _ => none)
/-- no list, no dict, no location within -/
def flat : Nat → D → Bool
  | 0, _ => false
  | n + 1, d => match d with
    | .non | .bl _ | .int _ | .str _ => true
    | .tup ds => ds.all (flat n)
    | _ => false

/-! ### what stands for what -/
abbrev DEnt := NestedKey × Addr × Value
/-- the dict object at a with the entries xs -/
def DicP (P : Program) (w : World) (a : Addr) (xs : List DEnt) : Heap → Prop := fun h =>
  ∃ o es ep, h.get? a = some o ∧ o.ExactDict ∧ o.data = .dict es ep ∧ es.toList = xs.map (entryOfKey (nestedKind P w)) ∧ (xs.map (·.1)).Nodup ∧ (a == sysModules) = false ∧ xs.length ≤ sizeLine
/-- a written list -/
def KLst (K : PySem.W.Frag) (a : Addr) (xs : List V) : Prop :=
  ∃ (o : Obj) (its : Array Value) (n : Nat), K.lookup a = some o ∧ o.cls = .type "list" ∧ o.dict = none ∧ o.data = .seq its n ∧ its.size ≤ sizeLine ∧ Vals xs its.toList
/-- a list that stands still: not to be changed by us -/
def LstAt (K : PySem.W.Frag) (A : Addr → Prop) (ρ : List Addr) (H : Hp) (a : Addr) (vs : List V) : Prop :=
  (H a = some (.lst vs) ∧ ¬ A a ∧ a ∉ ρ) ∨ (∃ o, H a = some (.frz o (.lst vs))) ∨ KLst K a vs
theorem LstAt.sq {K : PySem.W.Frag} {A : Addr → Prop} {ρ : List Addr} {H : Hp} {a : Addr} {vs : List V} (h : LstAt K A ρ H a vs) : SqL K H a vs := by
  rcases h with ⟨h, _, _⟩ | h | h
  · exact .inl (.inl h)
  · exact .inl (.inr h)
  · exact .inr h
mutual
inductive VR (G : Gx) (A : Addr → Prop) (ρ : List Addr) (H : Hp) : V → D → Prop
  | non : VR G A ρ H .non .non
  | bl (b : Bool) : VR G A ρ H (.bl b) (.bl b)
  | int (i : Int) : VR G A ρ H (.int i) (.int i)
  | str (s : Str) : VR G A ρ H (.str s) (.str s)
  | tup {a : Addr} {vs : List V} {ds : List D} : SqT G.K H a vs → VRs G A ρ H vs ds → VR G A ρ H (.ref a) (.tup ds)
  | lst {a : Addr} {vs : List V} {ds : List D} : H a = some (.lst vs) → ¬ A a → a ∉ ρ → VRs G A ρ H vs ds → VR G A ρ H (.ref a) (.lst ds)
  | scr {a : Addr} {vs : List V} {ds : List D} : LstAt G.K A ρ H a vs → VRs G A ρ H vs ds → VR G A ρ H (.ref a) (.scr ds)
  | dic {a : Addr} {xs : List DEnt} {ks us : List D} : H a = some (.ext (DicP G.P G.w a xs)) → ¬ A a → a ∉ ρ → DR G A ρ H xs ks us → VR G A ρ H (.ref a) (.dic ks us)
  | loc {n : Nat} {a : Addr} : ρ[n]? = some a → VR G A ρ H (.ref a) (.loc n)
inductive VRs (G : Gx) (A : Addr → Prop) (ρ : List Addr) (H : Hp) : List V → List D → Prop
  | nil : VRs G A ρ H [] []
  | cons {v : V} {d : D} {vs : List V} {ds : List D} : VR G A ρ H v d → VRs G A ρ H vs ds → VRs G A ρ H (v :: vs) (d :: ds)
inductive DR (G : Gx) (A : Addr → Prop) (ρ : List Addr) (H : Hp) : List DEnt → List D → List D → Prop
  | nil : DR G A ρ H [] [] []
  | cons {nk : NestedKey} {ad : Addr} {u : Value} {v : V} {k d : D} {xs : List DEnt} {ks us : List D} : toKey 8 k = some nk → VR G A ρ H (.ref ad) k → RelV v u → VR G A ρ H v d → DR G A ρ H xs ks us → DR G A ρ H ((nk, ad, u) :: xs) (k :: ks) (d :: us)
end
/-- an instance's fields -/
inductive FR (G : Gx) (A : Addr → Prop) (ρ : List Addr) (H : Hp) : List (Str × V) → List (Str × D) → Prop
  | nil : FR G A ρ H [] []
  | cons {f : Str} {v : V} {d : D} {gs : List (Str × V)} {fs : List (Str × D)} : VR G A ρ H v d → FR G A ρ H gs fs → FR G A ρ H ((f, v) :: gs) ((f, d) :: fs)
def OR (G : Gx) (A : Addr → Prop) (ρ : List Addr) (H : Hp) (a : Addr) : LO → Prop
  | .lst ds => ∃ vs, H a = some (.lst vs) ∧ VRs G A ρ H vs ds
  | .dic ks us => ∃ xs, H a = some (.ext (DicP G.P G.w a xs)) ∧ DR G A ρ H xs ks us
  | .ins c fs => ∃ dx gs, H a = some (.ins (He.ga G.K c) dx gs) ∧ FR G A ρ H gs fs
structure SR (G : Gx) (A : Addr → Prop) (ρ : List Addr) (H : Hp) (lh : LH) : Prop where
  len : ρ.length = lh.length
  nd : ρ.Nodup
  av : ∀ a, A a → ∃ o, H a = some o
  obj : ∀ (n : Nat) (o : LO), lh[n]? = some o → ∃ a, ρ[n]? = some a ∧ OR G A ρ H a o
/-- what may have come -/
structure Stp (ρ : List Addr) (H : Hp) (ρ' : List Addr) (H' : Hp) : Prop where
  pre : ∃ r, ρ' = ρ ++ r ∧ ∀ a ∈ r, H a = none
  frm : ∀ a o, H a = some o → a ∉ ρ → H' a = some o
  tup : ∀ a xs, H a = some (.tup xs) → H' a = some (.tup xs)
  frz : ∀ a o u, H a = some (.frz o u) → H' a = some (.frz o u)
  trk : ∀ a o, H a = some o → ∃ u, H' a = some u

section
variable {G : Gx} {A : Addr → Prop} {ρ ρ' ρ1 ρ2 : List Addr} {H H' H1 H2 : Hp} {lh : LH} {v : V} {d : D} {vs : List V} {ds : List D} {a : Addr}
theorem Stp.refl (ρ : List Addr) (H : Hp) : Stp ρ H ρ H := ⟨⟨[], by simp, fun _ h => absurd h (by simp)⟩, fun _ _ h _ => h, fun _ _ h => h, fun _ _ _ h => h, fun _ o h => ⟨o, h⟩⟩
theorem Stp.back (s : Stp ρ H ρ' H') (h : H' a = none) : H a = none := by
  cases e : H a with
  | none => rfl
  | some o =>
    obtain ⟨u, q⟩ := s.trk a o e
    rw [h] at q
    cases q
theorem Stp.nin (s : Stp ρ H ρ' H') {o : HO} (h : H a = some o) (n : a ∉ ρ) : a ∉ ρ' := by
  obtain ⟨r, e, f⟩ := s.pre
  rw [e]
  intro z
  rcases List.mem_append.mp z with z | z
  · exact n z
  · rw [f a z] at h
    cases h
theorem Stp.trans (s : Stp ρ H ρ1 H1) (t : Stp ρ1 H1 ρ2 H2) : Stp ρ H ρ2 H2 := by
  refine ⟨?_, fun a o h n => t.frm a o (s.frm a o h n) (s.nin h n), fun a xs h => t.tup a xs (s.tup a xs h), fun a o u h => t.frz a o u (s.frz a o u h), fun a o h => ?_⟩
  · obtain ⟨r, e, f⟩ := s.pre
    obtain ⟨r', e', f'⟩ := t.pre
    refine ⟨r ++ r', by rw [e', e, List.append_assoc], fun b hb => ?_⟩
    rcases List.mem_append.mp hb with z | z
    · exact f b z
    · exact s.back (f' b z)
  · obtain ⟨u, q⟩ := s.trk a o h
    exact t.trk a u q
theorem Stp.get (s : Stp ρ H ρ' H') {n : Nat} (h : ρ[n]? = some a) : ρ'[n]? = some a := by
  obtain ⟨r, e, _⟩ := s.pre
  rw [e]
  exact (List.getElem?_append_left (List.getElem?_eq_some_iff.mp h).1).trans h
theorem sqT_stp {K : PySem.W.Frag} (s : Stp ρ H ρ' H') (h : SqT K H a vs) : SqT K H' a vs := by
  rcases h with (h | ⟨o, h⟩) | h
  · exact .inl (.inl (s.tup _ _ h))
  · exact .inl (.inr ⟨o, s.frz _ _ _ h⟩)
  · exact .inr h
theorem lstAt_stp {K : PySem.W.Frag} (s : Stp ρ H ρ' H') (h : LstAt K A ρ H a vs) : LstAt K A ρ' H' a vs := by
  rcases h with ⟨h, h1, h2⟩ | ⟨o, h⟩ | h
  · exact .inl ⟨s.frm _ _ h h2, h1, s.nin h h2⟩
  · exact .inr (.inl ⟨o, s.frz _ _ _ h⟩)
  · exact .inr (.inr h)
mutual
theorem VR.stp (s : Stp ρ H ρ' H') : ∀ {v : V} {d : D}, VR G A ρ H v d → VR G A ρ' H' v d
  | _, _, .non => .non
  | _, _, .bl b => .bl b
  | _, _, .int b => .int b
  | _, _, .str b => .str b
  | _, _, .tup h r => .tup (sqT_stp s h) (VRs.stp s r)
  | _, _, .lst h h1 h2 r => .lst (s.frm _ _ h h2) h1 (s.nin h h2) (VRs.stp s r)
  | _, _, .scr h r => .scr (lstAt_stp s h) (VRs.stp s r)
  | _, _, .dic h h1 h2 r => .dic (s.frm _ _ h h2) h1 (s.nin h h2) (DR.stp s r)
  | _, _, .loc h => .loc (s.get h)
theorem VRs.stp (s : Stp ρ H ρ' H') : ∀ {vs : List V} {ds : List D}, VRs G A ρ H vs ds → VRs G A ρ' H' vs ds
  | _, _, .nil => .nil
  | _, _, .cons h r => .cons (VR.stp s h) (VRs.stp s r)
theorem DR.stp (s : Stp ρ H ρ' H') : ∀ {xs : List DEnt} {ks us : List D}, DR G A ρ H xs ks us → DR G A ρ' H' xs ks us
  | _, _, _, .nil => .nil
  | _, _, _, .cons e h r h2 t => .cons e (VR.stp s h) r (VR.stp s h2) (DR.stp s t)
end
theorem FR.stp (s : Stp ρ H ρ' H') : ∀ {gs : List (Str × V)} {fs : List (Str × D)}, FR G A ρ H gs fs → FR G A ρ' H' gs fs
  | _, _, .nil => .nil
  | _, _, .cons h r => .cons (h.stp s) (FR.stp s r)
theorem VRs.length : ∀ {vs : List V} {ds : List D}, VRs G A ρ H vs ds → vs.length = ds.length
  | _, _, .nil => rfl
  | _, _, .cons _ r => by rw [List.length_cons, List.length_cons, VRs.length r]
theorem VRs.get : ∀ {vs : List V} {ds : List D} {i : Nat} {d : D}, VRs G A ρ H vs ds → ds[i]? = some d → ∃ v, vs[i]? = some v ∧ VR G A ρ H v d
  | _, _, _, _, .nil, h => by simp at h
  | _, _, 0, _, .cons h _, e => by simp at e; subst e; exact ⟨_, rfl, h⟩
  | _, _, i + 1, d, .cons _ r, e => by
    obtain ⟨v, h1, h2⟩ := VRs.get (i := i) (d := d) r (by simpa using e)
    exact ⟨v, by simpa using h1, h2⟩
theorem VRs.get' : ∀ {vs : List V} {ds : List D} {i : Nat} {v : V}, VRs G A ρ H vs ds → vs[i]? = some v → ∃ d, ds[i]? = some d ∧ VR G A ρ H v d
  | _, _, _, _, .nil, h => by simp at h
  | _, _, 0, _, .cons h _, e => by simp at e; subst e; exact ⟨_, rfl, h⟩
  | _, _, i + 1, d, .cons _ r, e => by
    obtain ⟨v, h1, h2⟩ := VRs.get' (i := i) (v := d) r (by simpa using e)
    exact ⟨v, by simpa using h1, h2⟩
theorem VRs.append : ∀ {vs ws : List V} {ds es : List D}, VRs G A ρ H vs ds → VRs G A ρ H ws es → VRs G A ρ H (vs ++ ws) (ds ++ es)
  | _, _, _, _, .nil, s => s
  | _, _, _, _, .cons h r, s => .cons h (VRs.append r s)
theorem VRs.drop : ∀ {vs : List V} {ds : List D} (n : Nat), VRs G A ρ H vs ds → VRs G A ρ H (vs.drop n) (ds.drop n)
  | _, _, 0, r => r
  | _, _, _ + 1, .nil => .nil
  | _, _, n + 1, .cons _ r => VRs.drop n r
theorem VRs.take : ∀ {vs : List V} {ds : List D} (n : Nat), VRs G A ρ H vs ds → VRs G A ρ H (vs.take n) (ds.take n)
  | _, _, 0, _ => .nil
  | _, _, _ + 1, .nil => .nil
  | _, _, n + 1, .cons h r => .cons h (VRs.take n r)
theorem VRs.reverse : ∀ {vs : List V} {ds : List D}, VRs G A ρ H vs ds → VRs G A ρ H vs.reverse ds.reverse
  | _, _, .nil => .nil
  | _, _, .cons h r => by
    rw [List.reverse_cons, List.reverse_cons]
    exact (VRs.reverse r).append (.cons h .nil)
theorem VRs.setAt : ∀ {vs : List V} {ds : List D} (n : Nat) {v : V} {d : D}, VRs G A ρ H vs ds → VR G A ρ H v d → VRs G A ρ H (vs.set n v) (ds.set n d)
  | _, _, _, _, _, .nil, _ => .nil
  | _, _, 0, _, _, .cons _ r, h => .cons h r
  | _, _, n + 1, _, _, .cons h r, q => .cons h (VRs.setAt n r q)
theorem VRs.replicate (n : Nat) : ∀ {vs : List V} {ds : List D}, VRs G A ρ H vs ds → VRs G A ρ H (List.replicate n vs).flatten (List.replicate n ds).flatten := by
  induction n with
  | zero => intro vs ds _; exact .nil
  | succ n ih =>
    intro vs ds h
    rw [List.replicate_succ, List.replicate_succ, List.flatten_cons, List.flatten_cons]
    exact h.append (ih h)
theorem FR.lookup : ∀ {gs : List (Str × V)} {fs : List (Str × D)} {f : Str} {d : D}, FR G A ρ H gs fs → fs.lookup f = some d → ∃ v, gs.lookup f = some v ∧ VR G A ρ H v d
  | _, _, _, _, .nil, e => by simp at e
  | _, _, f, d, .cons (f := g) h r, e => by
    rw [List.lookup_cons] at e ⊢
    cases q : f == g with
    | true =>
      rw [q] at e
      cases e
      exact ⟨_, rfl, h⟩
    | false =>
      rw [q] at e
      exact FR.lookup r e
theorem FR.lookupN : ∀ {gs : List (Str × V)} {fs : List (Str × D)} {f : Str}, FR G A ρ H gs fs → fs.lookup f = none → gs.lookup f = none
  | _, _, _, .nil, e => rfl
  | _, _, f, .cons (f := g) h r, e => by
    rw [List.lookup_cons] at e ⊢
    cases q : f == g with
    | true => rw [q] at e; cases e
    | false =>
      rw [q] at e
      exact FR.lookupN r e
theorem OR.stp (s : Stp ρ H ρ' H') (h : OR G A ρ H a o) (k : ∀ u, H a = some u → H' a = some u) : OR G A ρ' H' a o := by
  cases o with
  | lst ds => obtain ⟨vs, h1, h2⟩ := h; exact ⟨vs, k _ h1, h2.stp s⟩
  | dic ks us => obtain ⟨xs, h1, h2⟩ := h; exact ⟨xs, k _ h1, h2.stp s⟩
  | ins c fs => obtain ⟨dx, gs, h1, h2⟩ := h; exact ⟨dx, gs, k _ h1, h2.stp s⟩
theorem OR.trk (h : OR G A ρ H a o) : ∃ u, H a = some u ∧ Mut (some u) := by
  cases o with
  | lst ds => obtain ⟨vs, h1, h2⟩ := h; exact ⟨_, h1, trivial⟩
  | dic ks us => obtain ⟨xs, h1, h2⟩ := h; exact ⟨_, h1, trivial⟩
  | ins c fs => obtain ⟨dx, gs, h1, h2⟩ := h; exact ⟨_, h1, trivial⟩
/-- what the locations name is tracked -/
theorem SR.mem (S : SR G A ρ H lh) (h : a ∈ ρ) : ∃ (n : Nat) (o : LO), ρ[n]? = some a ∧ lh[n]? = some o ∧ OR G A ρ H a o := by
  obtain ⟨n, hn, e⟩ := List.mem_iff_getElem.mp h
  have hl : n < lh.length := by rw [← S.len]; exact hn
  obtain ⟨b, h1, h2⟩ := S.obj n lh[n] (by simp [hl])
  have e1 : ρ[n]? = some a := by rw [← e]; simp [hn]
  rw [e1] at h1
  cases h1
  exact ⟨n, _, e1, by simp [hl], h2⟩
theorem SR.mut (S : SR G A ρ H lh) (h : a ∈ ρ) : ∃ u, H a = some u ∧ Mut (some u) := by
  obtain ⟨n, o, _, _, q⟩ := S.mem h
  exact q.trk
theorem SR.fresh (S : SR G A ρ H lh) (h : H a = none) : a ∉ ρ := fun z => by
  obtain ⟨u, e, _⟩ := S.mut z
  rw [h] at e
  cases e
theorem SR.notA (S : SR G A ρ H lh) (h : H a = none) : ¬ A a := fun z => by
  obtain ⟨o, e⟩ := S.av a z
  rw [h] at e
  cases e
/-- a new object beside: nothing else changes -/
theorem stp_new {o : HO} (h : H a = none) : Stp ρ H ρ (upd H a o) :=
  ⟨⟨[], by simp, fun _ z => absurd z (by simp)⟩, fun b u e _ => by rw [upd_ne (ne_of_none e h)]; exact e, fun b u e => by rw [upd_ne (ne_of_none e h)]; exact e, fun b u q e => by rw [upd_ne (ne_of_none e h)]; exact e, fun b u e => ⟨u, by rw [upd_ne (ne_of_none e h)]; exact e⟩⟩
theorem stp_loc {o : HO} (h : H a = none) : Stp ρ H (ρ ++ [a]) (upd H a o) :=
  ⟨⟨[a], rfl, fun b z => by rw [List.mem_singleton.mp z]; exact h⟩, fun b u e _ => by rw [upd_ne (ne_of_none e h)]; exact e, fun b u e => by rw [upd_ne (ne_of_none e h)]; exact e, fun b u q e => by rw [upd_ne (ne_of_none e h)]; exact e, fun b u e => ⟨u, by rw [upd_ne (ne_of_none e h)]; exact e⟩⟩
theorem SR.new {o : HO} (S : SR G A ρ H lh) (h : H a = none) : SR G A ρ (upd H a o) lh :=
  ⟨S.len, S.nd, fun b z => by obtain ⟨u, e⟩ := S.av b z; exact ⟨u, by rw [upd_ne (ne_of_none e h)]; exact e⟩, fun n q e => by
    obtain ⟨b, h1, h2⟩ := S.obj n q e
    exact ⟨b, h1, h2.stp (stp_new h) fun u z => by rw [upd_ne (ne_of_none z h)]; exact z⟩⟩
/-- a new location -/
theorem SR.newLoc {o : HO} {l : LO} (S : SR G A ρ H lh) (h : H a = none) (ho : OR G A (ρ ++ [a]) (upd H a o) a l) : SR G A (ρ ++ [a]) (upd H a o) (lh ++ [l]) := by
  refine ⟨by simp [S.len], ?_, fun b z => by obtain ⟨u, e⟩ := S.av b z; exact ⟨u, by rw [upd_ne (ne_of_none e h)]; exact e⟩, fun n q e => ?_⟩
  · refine List.nodup_append.mpr ⟨S.nd, by simp, fun x hx y hy => ?_⟩
    rw [List.mem_singleton.mp hy]
    rintro rfl
    exact S.fresh h hx
  · by_cases hn : n < lh.length
    · rw [List.getElem?_append_left hn] at e
      obtain ⟨b, h1, h2⟩ := S.obj n q e
      exact ⟨b, (stp_loc (o := o) h).get h1, h2.stp (stp_loc h) fun u z => by rw [upd_ne (ne_of_none z h)]; exact z⟩
    · rw [List.getElem?_append_right (by omega)] at e
      have en : n - lh.length = 0 := by
        have := (List.getElem?_eq_some_iff.mp e).1
        simp at this
        omega
      rw [en] at e
      cases e
      refine ⟨a, ?_, ho⟩
      have : n = ρ.length := by rw [S.len]; omega
      rw [this]
      simp
/-- a location's object changes -/
theorem stp_set {o u : HO} {n : Nat} (hn : ρ[n]? = some a) (h : H a = some u) (hu : Mut (some u)) : Stp ρ H ρ (upd H a o) := by
  have hm : a ∈ ρ := List.mem_of_getElem? hn
  refine ⟨⟨[], by simp, fun _ z => absurd z (by simp)⟩, fun b q e nb => ?_, fun b q e => ?_, fun b q r e => ?_, fun b q e => ?_⟩
  · rw [upd_ne (fun z => nb (by rw [z]; exact hm))]; exact e
  · rw [upd_ne (fun z => by rw [z, h] at e; cases e; exact hu)]; exact e
  · rw [upd_ne (fun z => by rw [z, h] at e; cases e; exact hu)]; exact e
  · by_cases hb : b = a
    · rw [hb]; exact ⟨o, upd_same⟩
    · exact ⟨q, by rw [upd_ne hb]; exact e⟩
theorem SR.set {o : HO} {l : LO} {n : Nat} (S : SR G A ρ H lh) (hn : ρ[n]? = some a) (ho : OR G A ρ (upd H a o) a l) : SR G A ρ (upd H a o) (lh.set n l) := by
  obtain ⟨u, hu, mu⟩ := S.mut (List.mem_of_getElem? hn)
  have st : Stp ρ H ρ (upd H a o) := stp_set hn hu mu
  refine ⟨by rw [List.length_set]; exact S.len, S.nd, fun b z => by obtain ⟨u, e⟩ := S.av b z; exact st.trk b u e, fun m q e => ?_⟩
  by_cases hm : m = n
  · subst hm
    have hl : m < lh.length := by rw [← S.len]; exact (List.getElem?_eq_some_iff.mp hn).1
    rw [List.getElem?_set_self hl] at e
    cases e
    exact ⟨a, hn, ho⟩
  · rw [List.getElem?_set_ne (Ne.symm hm)] at e
    obtain ⟨b, h1, h2⟩ := S.obj m q e
    refine ⟨b, h1, h2.stp st fun u z => ?_⟩
    have : b ≠ a := by
      rintro rfl
      obtain ⟨i1, e1⟩ := List.getElem?_eq_some_iff.mp h1
      obtain ⟨i2, e2⟩ := List.getElem?_eq_some_iff.mp hn
      exact hm ((List.getElem_inj S.nd).mp (e1.trans e2.symm))
    rw [upd_ne this]
    exact z
theorem SR.lst {n : Nat} {xs : List D} (S : SR G A ρ H lh) (h : lstAt lh n = some xs) : ∃ a vs, ρ[n]? = some a ∧ H a = some (.lst vs) ∧ VRs G A ρ H vs xs := by
  unfold lstAt at h
  cases e : lh[n]? with
  | none => rw [e] at h; cases h
  | some o =>
    rw [e] at h
    cases o with
    | lst ys =>
      cases h
      obtain ⟨a, h1, vs, h2, h3⟩ := S.obj n _ e
      exact ⟨a, vs, h1, h2, h3⟩
    | _ => cases h
/-- the kinds of toP: data read -/
theorem toP_dp (S : SR G A ρ H lh) : ∀ (n : Nat) {v : V} {d : D} {p : PyData}, VR G A ρ H v d → toP lh n d = some p → Dp G.K H v p := by
  intro n
  induction n with
  | zero => intro v d p _ h; cases h
  | succ n ih =>
    have all : ∀ {vs : List V} {ds : List D} {ps : List PyData}, VRs G A ρ H vs ds → mapO (toP lh n) ds = some ps → DpAll G.K H vs ps := by
      intro vs ds
      induction ds generalizing vs with
      | nil => intro ps r h; cases r; cases h; exact .nil
      | cons d ds ih2 =>
        intro ps r h
        cases r with
        | cons r1 r2 =>
          obtain ⟨y, ys, h1, h2, rfl⟩ := mapO_cons h
          exact .cons (ih r1 h1) (ih2 r2 h2)
    intro v d p r h
    cases r with
    | non => cases h; exact .non
    | bl b => cases h; exact .bl b
    | int b => cases h; exact .int b
    | str b => cases h; exact .str b
    | @tup a vs ds q r =>
      simp only [toP] at h
      cases e : mapO (toP lh n) ds with
      | none => rw [e] at h; cases h
      | some ks => rw [e] at h; cases h; exact .tup q (all r e)
    | @lst a vs ds q _ _ r =>
      simp only [toP] at h
      cases e : mapO (toP lh n) ds with
      | none => rw [e] at h; cases h
      | some ks => rw [e] at h; cases h; exact .lst (SqL.of q) (all r e)
    | @scr a vs ds q r =>
      simp only [toP] at h
      cases e : mapO (toP lh n) ds with
      | none => rw [e] at h; cases h
      | some ks => rw [e] at h; cases h; exact .lst q.sq (all r e)
    | dic _ _ _ _ => simp only [toP] at h; cases h
    | @loc m a q =>
      simp only [toP] at h
      cases e0 : lstAt lh m with
      | none => rw [e0] at h; cases h
      | some ds =>
        rw [e0] at h
        cases e : mapO (toP lh n) ds with
        | none => simp only [e] at h; cases h
        | some ks =>
          simp only [e] at h
          cases h
          obtain ⟨b, vs, h1, h2, h3⟩ := S.lst e0
          rw [q] at h1
          cases h1
          exact .lst (SqL.of h2) (all h3 e)
theorem toP_all (S : SR G A ρ H lh) (n : Nat) : ∀ {vs : List V} {ds : List D} {ps : List PyData}, VRs G A ρ H vs ds → mapO (toP lh n) ds = some ps → DpAll G.K H vs ps
  | _, [], _, r, h => by cases r; cases h; exact .nil
  | _, d :: ds, _, .cons r1 r2, h => by
    obtain ⟨y, ys, h1, h2, rfl⟩ := mapO_cons h
    exact .cons (toP_dp S n r1 h1) (toP_all S n r2 h2)
end
end Tb

/-! The mirrors' types, what a mirror promises, expressions. -/
namespace Tb
open PySem PySem.Spec PyProof.Rows L2

inductive Res (α : Type) where
  | ok (a : α) (lh : LH) | exc (c : Str) (lh : LH) | stuck
abbrev Tau := List (Option D)
inductive SRes where
  | nx (τ : Tau) (lh : LH) | rt (d : D) (lh : LH) | bk (τ : Tau) (lh : LH) | exc (c : Str) (τ : Tau) (lh : LH) | stuck
abbrev EM := Tau → LH → Res D
abbrev AM := Tau → LH → Res (List D)
abbrev TM := Tau → LH → Res Bool
abbrev SM := Tau → LH → SRes
def Res.bind {α β : Type} (r : Res α) (f : α → LH → Res β) : Res β := match r with
  | .ok a lh => f a lh
  | .exc c lh => .exc c lh
  | .stuck => .stuck
/-- what an operation gives: a value, or a new list -/
inductive Ro where
  | v (d : D) | l (xs : List D) | no
/-- a new list is a location (al), or stands still from now on -/
def Ro.res (al : Bool) (lh : LH) : Ro → Res D
  | .v d => .ok d lh
  | .l xs => if al = true then .ok (.loc lh.length) (lh ++ [.lst xs]) else .ok (.lst xs) lh
  | .no => .stuck

def gx (X : Cx) : Gx := ⟨X.prog, X.w, X.K⟩
structure ER (G : Gx) (A : Addr → Prop) (ρ : List Addr) (H : Hp) (σ : L2.St) (τ : Tau) : Prop where
  len : τ.length = σ.length
  at_ : ∀ (i : Nat) (d : D), τ[i]? = some (some d) → ∃ v, σ[i]? = some (some v) ∧ VR G A ρ H v d
def PRg (G : Gx) (A : Addr → Prop) (ρ : List Addr) (H : Hp) {α β : Type} (rel : List Addr → Hp → β → α → Prop) (r : Res α) (W : Str → Hp → Prop) (Q : β → Hp → Prop) : Prop := match r with
  | .ok a lh' => ∀ ρ' H' b, Stp ρ H ρ' H' → SR G A ρ' H' lh' → rel ρ' H' b a → Q b H'
  | .exc c lh' => ∀ ρ' H', Stp ρ H ρ' H' → SR G A ρ' H' lh' → W c H'
  | .stuck => False
abbrev wAt (G : Gx) (W : WX) (σ : L2.St) : Str → Hp → Prop := fun c H' => W (.ref (He.ga G.K c)) none σ H'
abbrev PRd (G : Gx) (A : Addr → Prop) (ρ : List Addr) (H : Hp) (r : Res D) (W : Str → Hp → Prop) (Q : VK) : Prop := PRg G A ρ H (VR G A) r W Q
def tE (G : Gx) (W : WX) (m : EM) : TE := fun σ H Q => ∃ A ρ τ lh, ER G A ρ H σ τ ∧ SR G A ρ H lh ∧ PRg G A ρ H (VR G A) (m τ lh) (wAt G W σ) Q
def tA (G : Gx) (W : WX) (m : AM) : TA := fun σ H Q => ∃ A ρ τ lh, ER G A ρ H σ τ ∧ SR G A ρ H lh ∧ PRg G A ρ H (VRs G A) (m τ lh) (wAt G W σ) Q
def tT (G : Gx) (W : WX) (m : TM) : TT := fun σ H Q => ∃ A ρ τ lh, ER G A ρ H σ τ ∧ SR G A ρ H lh ∧ PRg G A ρ H (fun _ _ b a => b = a) (m τ lh) (wAt G W σ) Q
def PSR (G : Gx) (W : WX) (A : Addr → Prop) (ρ : List Addr) (H : Hp) (r : SRes) (E : Ends) : Prop := match r with
  | .nx τ' lh' => ∀ ρ' H' σ', Stp ρ H ρ' H' → SR G A ρ' H' lh' → ER G A ρ' H' σ' τ' → E.nx σ' H'
  | .rt d lh' => ∀ ρ' H' v, Stp ρ H ρ' H' → SR G A ρ' H' lh' → VR G A ρ' H' v d → E.rt v H'
  | .bk τ' lh' => ∀ ρ' H' σ', Stp ρ H ρ' H' → SR G A ρ' H' lh' → ER G A ρ' H' σ' τ' → E.bk σ' H'
  | .exc c τ' lh' => ∀ ρ' H' σ', Stp ρ H ρ' H' → SR G A ρ' H' lh' → ER G A ρ' H' σ' τ' → wAt G W σ' c H'
  | .stuck => False
def tS (G : Gx) (W : WX) (m : SM) : TS := fun E σ H => ∃ A ρ τ lh, ER G A ρ H σ τ ∧ SR G A ρ H lh ∧ PSR G W A ρ H (m τ lh) E
abbrev EE (X : Cx) (W : WX) (e : Expr) (m : EM) : Prop := PE X e (tE (gx X) W m)
abbrev EA (X : Cx) (W : WX) (es : List Expr) (m : AM) : Prop := PA X es (tA (gx X) W m)
abbrev ET (X : Cx) (W : WX) (e : Expr) (m : TM) : Prop := PT X e (tT (gx X) W m)
abbrev ES (X : Cx) (W : WX) (s : Stmt) (m : SM) : Prop := PS X s (tS (gx X) W m)
abbrev ESs (X : Cx) (W : WX) (s : List Stmt) (m : SM) : Prop := PSs X s (tS (gx X) W m)

section
variable {G : Gx} {W : WX} {A : Addr → Prop} {ρ ρ' : List Addr} {H H' : Hp} {lh : LH} {σ : L2.St} {τ : Tau}
theorem ER.stp (s : Stp ρ H ρ' H') (e : ER G A ρ H σ τ) : ER G A ρ' H' σ τ := ⟨e.len, fun i d h => by
  obtain ⟨v, h1, h2⟩ := e.at_ i d h
  exact ⟨v, h1, h2.stp s⟩⟩
theorem ER.set (e : ER G A ρ H σ τ) (i : Nat) {v : V} {d : D} (h : VR G A ρ H v d) : ER G A ρ H (σ.set i (some v)) (τ.set i (some d)) := by
  refine ⟨by rw [List.length_set, List.length_set]; exact e.len, fun j d' hj => ?_⟩
  by_cases hi : j = i
  · subst hi
    have hl : j < τ.length := by
      have := (List.getElem?_eq_some_iff.mp hj).1
      rwa [List.length_set] at this
    rw [List.getElem?_set_self hl] at hj
    cases hj
    exact ⟨v, by rw [List.getElem?_set_self (by rw [← e.len]; exact hl)], h⟩
  · rw [List.getElem?_set_ne (Ne.symm hi)] at hj ⊢
    exact e.at_ j d' hj
theorem PRg.stp {α β : Type} {rel : List Addr → Hp → β → α → Prop} {r : Res α} {V : Str → Hp → Prop} {Q : β → Hp → Prop} (s : Stp ρ H ρ' H') (h : PRg G A ρ H rel r V Q) : PRg G A ρ' H' rel r V Q := by
  cases r with
  | ok a lh' => exact fun ρ2 H2 b t S z => h ρ2 H2 b (s.trans t) S z
  | exc c lh' => exact fun ρ2 H2 t S => h ρ2 H2 (s.trans t) S
  | stuck => exact h
theorem PRg.thn {α α' β β' : Type} {rel : List Addr → Hp → β → α → Prop} {rel2 : List Addr → Hp → β' → α' → Prop} {r : Res α} {f : α → LH → Res α'} {V : Str → Hp → Prop} {Q : β' → Hp → Prop} {R : β → Hp → Prop}
    (h : PRg G A ρ H rel2 (r.bind f) V Q) (k : ∀ a lh' ρ' H' b, Stp ρ H ρ' H' → SR G A ρ' H' lh' → rel ρ' H' b a → PRg G A ρ' H' rel2 (f a lh') V Q → R b H') : PRg G A ρ H rel r V R := by
  cases r with
  | ok a lh' => exact fun ρ2 H2 b t S z => k a lh' ρ2 H2 b t S z (PRg.stp (r := f a lh') t h)
  | exc c lh' => exact h
  | stuck => exact h
theorem PRg.mono {α β : Type} {rel : List Addr → Hp → β → α → Prop} {r : Res α} {V : Str → Hp → Prop} {Q Q' : β → Hp → Prop} (h : PRg G A ρ H rel r V Q) (k : ∀ b H', Q b H' → Q' b H') : PRg G A ρ H rel r V Q' := by
  cases r with
  | ok a lh' => exact fun ρ2 H2 b t S z => k _ _ (h ρ2 H2 b t S z)
  | exc c lh' => exact h
  | stuck => exact h
theorem PSR.stp {r : SRes} {E : Ends} (s : Stp ρ H ρ' H') (h : PSR G W A ρ H r E) : PSR G W A ρ' H' r E := by
  cases r with
  | nx τ' lh' => exact fun ρ2 H2 b t S z => h ρ2 H2 b (s.trans t) S z
  | rt d lh' => exact fun ρ2 H2 b t S z => h ρ2 H2 b (s.trans t) S z
  | bk τ' lh' => exact fun ρ2 H2 b t S z => h ρ2 H2 b (s.trans t) S z
  | exc c τ' lh' => exact fun ρ2 H2 b t S z => h ρ2 H2 b (s.trans t) S z
  | stuck => exact h
def PRo (G : Gx) (A : Addr → Prop) (ρ : List Addr) (H : Hp) (al : Bool) (lh : LH) (r : Ro) (Q : VK) : Prop := PRg G A ρ H (VR G A) (r.res al lh) (fun _ _ => False) Q
theorem PRo.of {al : Bool} {r : Ro} {V : Str → Hp → Prop} {Q : VK} (h : PRg G A ρ H (VR G A) (r.res al lh) V Q) : PRo G A ρ H al lh r Q := by
  unfold PRo
  cases r with
  | v d => exact h
  | l xs => cases al <;> exact h
  | no => exact h
/-- a value that stands -/
theorem PRo.val {al : Bool} {d : D} {v : V} {Q : VK} (h : PRo G A ρ H al lh (.v d) Q) (S : SR G A ρ H lh) (r : VR G A ρ H v d) : Q v H := h ρ H v (Stp.refl ρ H) S r
theorem PRo.tup {al : Bool} {ds : List D} {vs : List V} {Q : VK} (h : PRo G A ρ H al lh (.v (.tup ds)) Q) (S : SR G A ρ H lh) (r : VRs G A ρ H vs ds) : ∀ p, H p = none → Q (.ref p) (upd H p (.tup vs)) :=
  fun p hp => h ρ _ _ (stp_new hp) (S.new hp) (.tup (SqT.of upd_same) (r.stp (stp_new hp)))
/-- a new list -/
theorem PRo.new {al : Bool} {ds : List D} {vs : List V} {Q : VK} (h : PRo G A ρ H al lh (.l ds) Q) (S : SR G A ρ H lh) (r : VRs G A ρ H vs ds) : ∀ p, H p = none → Q (.ref p) (upd H p (.lst vs)) := by
  intro p hp
  cases al with
  | false => exact h ρ _ _ (stp_new hp) (S.new hp) (.lst upd_same (S.notA hp) (S.fresh hp) (r.stp (stp_new hp)))
  | true =>
    have e : ρ.length = lh.length := S.len
    refine h (ρ ++ [p]) _ _ (stp_loc hp) (S.newLoc hp ⟨vs, upd_same, r.stp (stp_loc hp)⟩) (.loc ?_)
    rw [← e]
    simp
end
theorem peImp {X : Cx} {e : Expr} {t t' : TE} (h : PE X e t) (i : ∀ σ H Q, t' σ H Q → t σ H Q) : PE X e t' := ⟨fun pins s σ H Q I hw => h.run pins s σ H Q I (i σ H Q hw)⟩
theorem paImp {X : Cx} {e : List Expr} {t t' : TA} (h : PA X e t) (i : ∀ σ H Q, t' σ H Q → t σ H Q) : PA X e t' := ⟨fun pos pins s σ H Q I hw => h.run pos pins s σ H Q I (i σ H Q hw)⟩
theorem ptImp {X : Cx} {e : Expr} {t t' : TT} (h : PT X e t) (i : ∀ σ H Q, t' σ H Q → t σ H Q) : PT X e t' := ⟨fun pins s σ H Q I hw => h.run pins s σ H Q I (i σ H Q hw)⟩
theorem psImp {X : Cx} {e : Stmt} {t t' : TS} (h : PS X e t) (i : ∀ E σ H, t' E σ H → t E σ H) : PS X e t' := ⟨fun pins s σ H E I hw => h.run pins s σ H E I (i E σ H hw)⟩
theorem pssImp {X : Cx} {e : List Stmt} {t t' : TS} (h : PSs X e t) (i : ∀ E σ H, t' E σ H → t E σ H) : PSs X e t' := ⟨fun pins s σ H E I hw => h.run pins s σ H E I (i E σ H hw)⟩

/-! ### names, constants -/
def eVar (i : Nat) : EM := fun τ lh => match τ[i]? with
  | some (some d) => .ok d lh
  | _ => .stuck
def eC (d : D) : EM := fun _ lh => .ok d lh
section
variable {X : Cx} {W : WX}
theorem ee_var (i : Nat) {x : Str} {pos : Pos} (hN : X.N[i]? = some x := by rfl) (hv : Vis X.env.scope x := by first | exact Or.inl rfl | exact Or.inr (Or.inl rfl) | exact Or.inr (Or.inr rfl)) (hd : (x == ("__debug__" : Str)) = false := by decide)
    (hcd : (x == ("__classdict__" : Str)) = false := by decide) : EE X W (.Name x pos) (eVar i) := by
  refine peImp (pe_var (i := i) hN hv hd hcd) fun σ H Q ⟨A, ρ, τ, lh, er, S, pr⟩ => ?_
  unfold eVar at pr
  cases e : τ[i]? with
  | none => rw [e] at pr; exact pr.elim
  | some o =>
    rw [e] at pr
    cases o with
    | none => exact pr.elim
    | some d =>
      obtain ⟨v, h1, h2⟩ := er.at_ i d e
      exact ⟨v, h1, pr ρ H v (Stp.refl ρ H) S h2⟩
theorem ee_c {e : Expr} {v : V} {d : D} (h : PE X e (tC v)) (r : ∀ A ρ H, VR (gx X) A ρ H v d) : EE X W e (eC d) :=
  peImp h fun σ H Q ⟨A, ρ, τ, lh, er, S, pr⟩ => pr ρ H v (Stp.refl ρ H) S (r A ρ H)
theorem ee_int {i : Int} {j pos} : EE X W (.Constant (.int i) j pos) (eC (.int i)) := ee_c pe_int fun _ _ _ => .int i
theorem ee_bl {i : Bool} {j pos} : EE X W (.Constant (.bool i) j pos) (eC (.bl i)) := ee_c pe_bl fun _ _ _ => .bl i
theorem ee_non {j pos} : EE X W (.Constant .none j pos) (eC .non) := ee_c pe_non fun _ _ _ => .non
theorem ee_str {i : Str} {j pos} : EE X W (.Constant (.str i) j pos) (eC (.str i)) := ee_c pe_str fun _ _ _ => .str i
/-- a module's constant -/
theorem ee_glob {x : Str} {v : V} {d : D} {u : Value} {pos : Pos} (hm : X.mg x = some u) (r : RelV v u) (rd : ∀ A ρ H, VR (gx X) A ρ H v d) (hg : Gl X x := by rfl) (hd : (x == ("__debug__" : Str)) = false := by decide) : EE X W (.Name x pos) (eC d) :=
  ee_c (pe_glob hg hm r hd) rd
end

/-! ### operations on two values -/
def e2 (al : Bool) (g : LH → D → D → Ro) (m1 m2 : EM) : EM := fun τ lh => (m1 τ lh).bind fun d lh => (m2 τ lh).bind fun e lh => (g lh d e).res al lh
def rD (G : Gx) (al : Bool) (g : LH → D → D → Ro) : R2 := fun x y H Q => ∃ A ρ lh d e, SR G A ρ H lh ∧ VR G A ρ H x d ∧ VR G A ρ H y e ∧ PRo G A ρ H al lh (g lh d e) Q
abbrev OpD (X : Cx) (f : Value → Value → Sem Value) (g : LH → D → D → Ro) : Prop := ∀ al, OpR X f (rD (gx X) al g)
def e1 (al : Bool) (g : LH → D → Ro) (m1 : EM) : EM := fun τ lh => (m1 τ lh).bind fun d lh => (g lh d).res al lh
def rD1 (G : Gx) (al : Bool) (g : LH → D → Ro) : V → Hp → VK → Prop := fun x H Q => ∃ A ρ lh d, SR G A ρ H lh ∧ VR G A ρ H x d ∧ PRo G A ρ H al lh (g lh d) Q
section
variable {X : Cx} {W : WX} {a b c : Expr} {m1 m2 m3 : EM} {pos : Pos} {al : Bool}
theorem e2_imp {t1 t2 : TE} {g : LH → D → D → Ro} (h1 : ∀ σ H Q, tE (gx X) W m1 σ H Q → t1 σ H Q) (h2 : ∀ σ H Q, tE (gx X) W m2 σ H Q → t2 σ H Q) : ∀ σ H Q, tE (gx X) W (e2 al g m1 m2) σ H Q → tOp (rD (gx X) al g) t1 t2 σ H Q :=
  fun σ H Q ⟨A, ρ, τ, lh, er, S, pr⟩ => h1 _ _ _ ⟨A, ρ, τ, lh, er, S, PRg.thn pr fun d lh1 ρ1 H1 x s1 S1 r1 pr1 => h2 _ _ _ ⟨A, ρ1, τ, lh1, er.stp s1, S1, PRg.thn pr1 fun e lh2 ρ2 H2 y s2 S2 r2 pr2 => ⟨A, ρ2, lh2, d, e, S2, r1.stp s2, r2, PRo.of pr2⟩⟩⟩
theorem ee_op {op : Operator} {g : LH → D → D → Ro} (ho : OpD X (binaryOp op) g) (al : Bool) (ha : EE X W a m1) (hb : EE X W b m2) : EE X W (.BinOp a op b pos) (e2 al g m1 m2) :=
  peImp (pe_op (ho al) ha hb) (e2_imp (fun _ _ _ h => h) fun _ _ _ h => h)
theorem ee_cmp {op : CmpOp} {g : LH → D → D → Ro} (ho : OpD X (compareOp op) g) (ha : EE X W a m1) (hb : EE X W b m2) (hm : behindInMarks op b = false := by first | exact nomark _ | rfl) : EE X W (.Compare a [op] [b] pos) (e2 false g m1 m2) :=
  peImp (pe_cmpR (ho false) ha hb hm) (e2_imp (fun _ _ _ h => h) fun _ _ _ h => h)
theorem ee_un {op : UnaryOp} {g : LH → D → Ro} (ho : UnR X (unaryOp op) (rD1 (gx X) al g)) (ha : EE X W a m1) : EE X W (.UnaryOp op a pos) (e1 al g m1) :=
  peImp (pe_un ho ha) fun σ H Q ⟨A, ρ, τ, lh, er, S, pr⟩ => ⟨A, ρ, τ, lh, er, S, PRg.thn pr fun d lh1 ρ1 H1 x s1 S1 r1 pr1 => ⟨A, ρ1, lh1, d, S1, r1, PRo.of pr1⟩⟩
theorem ee_ix {g : LH → D → D → Ro} (hr : IxR X (rD (gx X) false g)) (ha : EE X W a m1) (hb : EE X W b m2) (hs : PlainIx b := by intro _ _; rfl) : EE X W (.Subscript a b pos) (e2 false g m1 m2) :=
  peImp (pe_ix hr ha hb hs) (e2_imp (fun _ _ _ h => h) fun _ _ _ h => h)
end
/-! ### arguments, displays -/
def aNil : AM := fun _ lh => .ok [] lh
def aCons (m : EM) (r : AM) : AM := fun τ lh => (m τ lh).bind fun d lh => (r τ lh).bind fun ds lh => .ok (d :: ds) lh
def eTup (r : AM) : EM := fun τ lh => (r τ lh).bind fun ds lh => if ds.length ≤ sizeLine then .ok (.tup ds) lh else .stuck
def eLst (al : Bool) (r : AM) : EM := fun τ lh => (r τ lh).bind fun ds lh => if ds.length ≤ sizeLine then (Ro.l ds).res al lh else .stuck
section
variable {X : Cx} {W : WX} {e : Expr} {es : List Expr} {m : EM} {r : AM} {pos : Pos} {al : Bool}
theorem ea_nil : EA X W [] aNil := paImp pa_nil fun σ H Q ⟨A, ρ, τ, lh, er, S, pr⟩ => pr ρ H [] (Stp.refl ρ H) S .nil
theorem ea_cons (ha : EE X W e m) (hr : EA X W es r) (hs : starEach (e :: es) X.env = (false, eval e X.env) :: starEach es X.env := by rfl) : EA X W (e :: es) (aCons m r) :=
  paImp (pa_cons ha hr hs) fun σ H Q ⟨A, ρ, τ, lh, er, S, pr⟩ => ⟨A, ρ, τ, lh, er, S, PRg.thn pr fun d lh1 ρ1 H1 x s1 S1 r1 pr1 => ⟨A, ρ1, τ, lh1, er.stp s1, S1, PRg.thn pr1 fun ds lh2 ρ2 H2 xs s2 S2 r2 pr2 => pr2 ρ2 H2 _ (Stp.refl _ _) S2 (.cons (r1.stp s2) r2)⟩⟩
theorem ee_tup {x1} (h : EA X W es r) : EE X W (.Tuple es x1 pos) (eTup r) :=
  peImp (pe_tup h) fun σ H Q ⟨A, ρ, τ, lh, er, S, pr⟩ => ⟨A, ρ, τ, lh, er, S, PRg.thn pr fun ds lh1 ρ1 H1 xs s1 S1 r1 pr1 => by
    by_cases hz : ds.length ≤ sizeLine
    · rw [if_pos hz] at pr1
      exact ⟨by rw [r1.length]; exact hz, PRo.tup (al := false) (lh := lh1) (PRo.of (r := .v (.tup ds)) pr1) S1 r1⟩
    · rw [if_neg hz] at pr1
      exact pr1.elim⟩
theorem ee_lst (al : Bool) (h : EA X W es r) : EE X W (.List es pos) (eLst al r) :=
  peImp (pe_lst h) fun σ H Q ⟨A, ρ, τ, lh, er, S, pr⟩ => ⟨A, ρ, τ, lh, er, S, PRg.thn pr fun ds lh1 ρ1 H1 xs s1 S1 r1 pr1 => by
    by_cases hz : ds.length ≤ sizeLine
    · rw [if_pos hz] at pr1
      exact ⟨by rw [r1.length]; exact hz, PRo.new (PRo.of pr1) S1 r1⟩
    · rw [if_neg hz] at pr1
      exact pr1.elim⟩
end
/-! ### tests -/
/-- a value's truth -/
def truD (lh : LH) : D → Option Bool
  | .non => some false
  | .bl b => some b
  | .int i => some (i != 0)
  | .str s => if s.length ≤ sizeLine then some ((s.length : Int) != 0) else none
  | .tup ds => some (!ds.isEmpty)
  | .lst ds => some (!ds.isEmpty)
  | .scr ds => some (!ds.isEmpty)
  | .dic _ _ => none
  | .loc n => (match lstAt lh n with
    | some ds => some (!ds.isEmpty)
    | none => none)
def tOf (m : EM) : TM := fun τ lh => (m τ lh).bind fun d lh => match truD lh d with
  | some b => .ok b lh
  | none => .stuck
theorem isEmpty_rs {G : Gx} {A : Addr → Prop} {ρ : List Addr} {H : Hp} {vs : List V} {ds : List D} (r : VRs G A ρ H vs ds) : vs.isEmpty = ds.isEmpty := by
  cases r <;> rfl
theorem tru_rel {G : Gx} {A : Addr → Prop} {ρ : List Addr} {H : Hp} {lh : LH} {v : V} {d : D} {b : Bool} (S : SR G A ρ H lh) (r : VR G A ρ H v d) (h : truD lh d = some b) : TruV G.K v H b := by
  cases r with
  | non => cases h; rfl
  | bl b => cases h; rfl
  | int i => cases h; rfl
  | str s =>
    simp only [truD] at h
    by_cases hz : s.length ≤ sizeLine
    · rw [if_pos hz] at h; cases h; exact ⟨hz, rfl⟩
    · rw [if_neg hz] at h; cases h
  | @tup a vs ds q r => cases h; exact .inr (.inl ⟨vs, q, by rw [isEmpty_rs r]⟩)
  | @lst a vs ds q _ _ r => cases h; exact .inl ⟨vs, SqL.of q, by rw [isEmpty_rs r]⟩
  | @scr a vs ds q r => cases h; exact .inl ⟨vs, q.sq, by rw [isEmpty_rs r]⟩
  | dic => cases h
  | @loc n a q =>
    simp only [truD] at h
    cases e : lstAt lh n with
    | none => rw [e] at h; cases h
    | some ds =>
      rw [e] at h
      cases h
      obtain ⟨a', vs, h1, h2, h3⟩ := S.lst e
      rw [q] at h1
      cases h1
      exact .inl ⟨vs, SqL.of h2, by rw [isEmpty_rs h3]⟩
def tAndD (a b : TM) : TM := fun τ lh => (a τ lh).bind fun x lh => if x = true then b τ lh else .ok false lh
def tOrD (a b : TM) : TM := fun τ lh => (a τ lh).bind fun x lh => if x = true then .ok true lh else b τ lh
def tNotD (a : TM) : TM := fun τ lh => (a τ lh).bind fun x lh => .ok (!x) lh
def eIf (c : TM) (a b : EM) : EM := fun τ lh => (c τ lh).bind fun x lh => if x = true then a τ lh else b τ lh
/-- a comparison of two as a test -/
def t2 (g : LH → D → D → Ro) (m1 m2 : EM) : TM := fun τ lh => (m1 τ lh).bind fun d lh => (m2 τ lh).bind fun e lh => match g lh d e with
  | .v (.bl b) => .ok b lh
  | _ => .stuck
section
variable {X : Cx} {W : WX} {a b c : Expr} {m m1 m2 m3 : EM} {t u : TM} {pos : Pos} {rest : List Expr}
theorem et_of (h : EE X W a m) (he : ∀ whole, PySem.isTrue a X.env whole = (do let v ← whole; standAt a.pos; holding [v] (truthy v)) := by intro _; rfl) : ET X W a (tOf m) :=
  ptImp (pt_truth h he) fun σ H Q ⟨A, ρ, τ, lh, er, S, pr⟩ => ⟨A, ρ, τ, lh, er, S, PRg.thn pr fun d lh1 ρ1 H1 x s1 S1 r1 pr1 => by
    cases e : truD lh1 d with
    | none => rw [e] at pr1; exact pr1.elim
    | some b =>
      rw [e] at pr1
      exact ⟨b, tru_rel S1 r1 e, pr1 ρ1 H1 b (Stp.refl _ _) S1 rfl⟩⟩
theorem et_cmp {op : CmpOp} {g : LH → D → D → Ro} (ho : OpD X (compareOp op) g) (ha : EE X W a m1) (hb : EE X W b m2) (hm : behindInMarks op b = false := by first | exact nomark _ | rfl) : ET X W (.Compare a [op] [b] pos) (t2 g m1 m2) :=
  ptImp (pt_cmpR (ho false) ha hb hm) fun σ H Q ⟨A, ρ, τ, lh, er, S, pr⟩ => ⟨A, ρ, τ, lh, er, S, PRg.thn pr fun d lh1 ρ1 H1 x s1 S1 r1 pr1 => ⟨A, ρ1, τ, lh1, er.stp s1, S1, PRg.thn pr1 fun e lh2 ρ2 H2 y s2 S2 r2 pr2 => ⟨A, ρ2, lh2, d, e, S2, r1.stp s2, r2, by
    cases q : g lh2 d e with
    | v d' =>
      rw [q] at pr2
      cases d' with
      | bl b =>
        intro ρ3 H3 v s3 S3 r3
        cases r3
        exact ⟨b, rfl, pr2 ρ3 H3 b s3 S3 rfl⟩
      | _ => exact pr2.elim
    | l xs => rw [q] at pr2; exact pr2.elim
    | no => rw [q] at pr2; exact pr2.elim⟩⟩⟩
theorem et_not (h : ET X W a t) : ET X W (.UnaryOp .Not a pos) (tNotD t) :=
  ptImp (pt_not h) fun σ H Q ⟨A, ρ, τ, lh, er, S, pr⟩ => ⟨A, ρ, τ, lh, er, S, PRg.thn pr fun d lh1 ρ1 H1 x s1 S1 r1 pr1 => pr1 ρ1 H1 _ (Stp.refl _ _) S1 (by rw [r1])⟩
abbrev EW (X : Cx) (W : WX) (e : Expr) (m : TM) : Prop := PW X e (tT (gx X) W m)
theorem pwImp {X : Cx} {e : Expr} {t t' : TT} (h : PW X e t) (i : ∀ σ H Q, t' σ H Q → t σ H Q) : PW X e t' := ⟨fun wh pins s σ H Q I hw => h.run wh pins s σ H Q I (i σ H Q hw)⟩
theorem ew_and1 (h : ET X W a t) : EW X W (.BoolOp .And [a] pos) t := pw_and1 h
theorem ew_or1 (h : ET X W a t) : EW X W (.BoolOp .Or [a] pos) t := pw_or1 h
theorem ew_and (h : ET X W a t) (h2 : EW X W (.BoolOp .And (b :: rest) pos) u) : EW X W (.BoolOp .And (a :: b :: rest) pos) (tAndD t u) :=
  pwImp (pw_and h h2) fun σ H Q ⟨A, ρ, τ, lh, er, S, pr⟩ => ⟨A, ρ, τ, lh, er, S, PRg.thn pr fun d lh1 ρ1 H1 x s1 S1 r1 pr1 => by
    subst r1
    cases x with
    | true => exact iteT ⟨A, ρ1, τ, lh1, er.stp s1, S1, pr1⟩
    | false => exact iteF (pr1 ρ1 H1 _ (Stp.refl _ _) S1 rfl)⟩
theorem ew_or (h : ET X W a t) (h2 : EW X W (.BoolOp .Or (b :: rest) pos) u) : EW X W (.BoolOp .Or (a :: b :: rest) pos) (tOrD t u) :=
  pwImp (pw_or h h2) fun σ H Q ⟨A, ρ, τ, lh, er, S, pr⟩ => ⟨A, ρ, τ, lh, er, S, PRg.thn pr fun d lh1 ρ1 H1 x s1 S1 r1 pr1 => by
    subst r1
    cases x with
    | true => exact iteT (pr1 ρ1 H1 _ (Stp.refl _ _) S1 rfl)
    | false => exact iteF ⟨A, ρ1, τ, lh1, er.stp s1, S1, pr1⟩⟩
theorem et_w (h : EW X W a t) : ET X W a t := PW.pt h
theorem ee_if (h : ET X W c t) (ha : EE X W a m1) (hb : EE X W b m2) : EE X W (.IfExp c a b pos) (eIf t m1 m2) :=
  peImp (pe_ifExp h ha hb) fun σ H Q ⟨A, ρ, τ, lh, er, S, pr⟩ => ⟨A, ρ, τ, lh, er, S, PRg.thn pr fun d lh1 ρ1 H1 x s1 S1 r1 pr1 => by
    subst r1
    cases x with
    | true => exact iteT ⟨A, ρ1, τ, lh1, er.stp s1, S1, pr1⟩
    | false => exact iteF ⟨A, ρ1, τ, lh1, er.stp s1, S1, pr1⟩⟩
end
/-! ### and, or, not as values (by truth) -/
def eAnd (a b : EM) : EM := fun τ lh => (a τ lh).bind fun d lh => match truD lh d with
  | some true => b τ lh
  | some false => .ok d lh
  | none => .stuck
def eOr (a b : EM) : EM := fun τ lh => (a τ lh).bind fun d lh => match truD lh d with
  | some true => .ok d lh
  | some false => b τ lh
  | none => .stuck
def eNot (a : EM) : EM := fun τ lh => (a τ lh).bind fun d lh => match truD lh d with
  | some b => .ok (.bl (!b)) lh
  | none => .stuck
end Tb

/-! Operators, comparisons, subscripts. -/
namespace Tb
open PySem PySem.Spec PyProof.Rows L2

/-- the items of a list -/
def asL (lh : LH) : D → Option (List D)
  | .lst xs => some xs
  | .scr xs => some xs
  | .loc n => lstAt lh n
  | _ => none
/-- the items of a list or a tuple -/
def asS (lh : LH) : D → Option (List D)
  | .tup xs => some xs
  | d => asL lh d
/-- the items of a list that is ours -/
def asM (lh : LH) : D → Option (List D)
  | .lst xs => some xs
  | .loc n => lstAt lh n
  | _ => none
section
variable {G : Gx} {A : Addr → Prop} {ρ : List Addr} {H : Hp} {lh : LH} {v : V} {d : D} {xs : List D}
theorem asM_rel (S : SR G A ρ H lh) (r : VR G A ρ H v d) (h : asM lh d = some xs) : ∃ a vs, v = .ref a ∧ H a = some (.lst vs) ∧ VRs G A ρ H vs xs := by
  cases r with
  | @lst a vs ds q _ _ r => cases h; exact ⟨a, vs, rfl, q, r⟩
  | @loc n a q =>
    obtain ⟨b, vs, h1, h2, h3⟩ := S.lst h
    rw [q] at h1
    cases h1
    exact ⟨a, vs, rfl, h2, h3⟩
  | _ => cases h
theorem asL_rel (S : SR G A ρ H lh) (r : VR G A ρ H v d) (h : asL lh d = some xs) : ∃ a vs, v = .ref a ∧ SqL G.K H a vs ∧ VRs G A ρ H vs xs := by
  cases r with
  | @lst a vs ds q _ _ r => cases h; exact ⟨a, vs, rfl, SqL.of q, r⟩
  | @scr a vs ds q r => cases h; exact ⟨a, vs, rfl, q.sq, r⟩
  | @loc n a q =>
    obtain ⟨b, vs, h1, h2, h3⟩ := S.lst h
    rw [q] at h1
    cases h1
    exact ⟨a, vs, rfl, SqL.of h2, h3⟩
  | _ => cases h
theorem asS_rel (S : SR G A ρ H lh) (r : VR G A ρ H v d) (h : asS lh d = some xs) : ∃ a vs, v = .ref a ∧ (SqL G.K H a vs ∨ SqT G.K H a vs) ∧ VRs G A ρ H vs xs := by
  cases r with
  | @tup a vs ds q r => cases h; exact ⟨a, vs, rfl, .inr q, r⟩
  | @lst a vs ds q _ _ r => cases h; exact ⟨a, vs, rfl, .inl (SqL.of q), r⟩
  | @scr a vs ds q r => cases h; exact ⟨a, vs, rfl, .inl q.sq, r⟩
  | @loc n a q =>
    obtain ⟨b, vs, h1, h2, h3⟩ := S.lst h
    rw [q] at h1
    cases h1
    exact ⟨a, vs, rfl, .inl (SqL.of h2), h3⟩
  | _ => cases h
end
theorem opImp {X : Cx} {f : Value → Value → Sem Value} {r r' : R2} (h : OpR X f r) (i : ∀ x y H Q, r' x y H Q → r x y H Q) : OpR X f r' := fun pins s σ H x y v u Q I rx ry z => h pins s σ H x y v u Q I rx ry (i x y H Q z)
theorem unImp {X : Cx} {f : Value → Sem Value} {r r' : V → Hp → VK → Prop} (h : UnR X f r) (i : ∀ x H Q, r' x H Q → r x H Q) : UnR X f r' := fun pins s σ H x v Q I rx z => h pins s σ H x v Q I rx (i x H Q z)
theorem ixImp {X : Cx} {r r' : R2} (h : IxR X r) (i : ∀ x y H Q, r' x y H Q → r x y H Q) : IxR X r' := fun value slice pins s σ H x y v u Q I rx ry z hs => h value slice pins s σ H x y v u Q I rx ry (i x y H Q z) hs
theorem callImp {X : Cx} {f : Value} {r r' : List V → Hp → VK → Prop} (h : CallR X f r) (i : ∀ xs H Q, r' xs H Q → r xs H Q) : CallR X f r' := fun pins s σ H xs us Q I rx z => h pins s σ H xs us Q I rx (i xs H Q z)

/-! ### arithmetic -/
def addG (lh : LH) (d e : D) : Ro := match d, e with
  | .int i, .int j => .v (.int (i + j))
  | .tup xs, .tup ys => if xs.length + ys.length ≤ sizeLine then .v (.tup (xs ++ ys)) else .no
  | d, e => match asM lh d, asM lh e with
    | some xs, some ys => if xs.length + ys.length ≤ sizeLine then .l (xs ++ ys) else .no
    | _, _ => .no
def subG (_ : LH) (d e : D) : Ro := match d, e with
  | .int i, .int j => .v (.int (i - j))
  | _, _ => .no
def mulG (lh : LH) (d e : D) : Ro := match d, e with
  | .int i, .int j => if (-(2 ^ 64) < i ∧ i < 2 ^ 64) ∨ (-(2 ^ 64) < j ∧ j < 2 ^ 64) then .v (.int (i * j)) else .no
  | d, .int k => (match asM lh d with
    | some xs => if -(2 ^ 63) ≤ k ∧ k < 2 ^ 63 ∧ xs.length * k.toNat ≤ sizeLine then .l (List.replicate k.toNat xs).flatten else .no
    | none => .no)
  | _, _ => .no
def modG (_ : LH) (d e : D) : Ro := match d, e with
  | .int i, .int j => if j ≠ 0 then .v (.int (i.fmod j)) else .no
  | _, _ => .no
def fdivG (_ : LH) (d e : D) : Ro := match d, e with
  | .int i, .int j => if j ≠ 0 ∧ j.natAbs < 1073741824 then .v (.int (i.fdiv j)) else .no
  | _, _ => .no
def powG (_ : LH) (d e : D) : Ro := match d, e with
  | .int i, .int j => if 0 ≤ j ∧ ((Builtin.Int.intBits i : Nat) : Int) * j ≤ 2 ^ 27 then .v (.int (i ^ j.toNat)) else .no
  | _, _ => .no
def negG (_ : LH) (d : D) : Ro := match d with
  | .int i => .v (.int (-i))
  | _ => .no
section
variable {X : Cx}
theorem op_addD : OpD X (binaryOp .Add) addG := fun al => by
  refine opImp (op_add.or (op_cat.or op_catA)) fun x y H Q ⟨A, ρ, lh, d, e, S, r1, r2, pr⟩ => ?_
  have lists : ∀ {xs ys : List D}, asM lh d = some xs → asM lh e = some ys → PRo (gx X) A ρ H al lh (if xs.length + ys.length ≤ sizeLine then .l (xs ++ ys) else .no) Q → rCat x y H Q := by
    intro xs ys h1 h2 pr
    obtain ⟨a, vs, rfl, ha, ra⟩ := asM_rel S r1 h1
    obtain ⟨b, ws, rfl, hb, rb⟩ := asM_rel S r2 h2
    by_cases hz : xs.length + ys.length ≤ sizeLine
    · rw [if_pos hz] at pr
      exact ⟨a, b, vs, ws, rfl, rfl, ha, hb, by rw [ra.length, rb.length]; exact hz, PRo.new pr S (ra.append rb)⟩
    · rw [if_neg hz] at pr
      exact pr.elim
  unfold addG at pr
  split at pr
  · cases r1; cases r2
    exact .inl ⟨_, _, rfl, rfl, PRo.val pr S (.int _)⟩
  · rename_i xs ys
    cases r1 with
    | @tup a vs _ qa ra =>
      cases r2 with
      | @tup b ws _ qb rb =>
        by_cases hz : xs.length + ys.length ≤ sizeLine
        · rw [if_pos hz] at pr
          refine .inr (.inr ⟨a, b, vs, ws, rfl, rfl, qa, qb, by rw [ra.length, rb.length]; exact hz, fun h => ?_, fun h h2 => ?_, fun h h2 => PRo.tup pr S (ra.append rb)⟩)
          · subst h
            cases ra
            exact PRo.val pr S (.tup qb rb)
          · subst h2
            cases rb
            exact PRo.val pr S (.tup qa (by rw [List.append_nil]; exact ra))
        · rw [if_neg hz] at pr
          exact pr.elim
  · split at pr
    · rename_i h1 h2
      exact .inr (.inl (lists h1 h2 pr))
    · exact pr.elim
theorem op_subD : OpD X (binaryOp .Sub) subG := fun al => by
  refine opImp op_sub fun x y H Q ⟨A, ρ, lh, d, e, S, r1, r2, pr⟩ => ?_
  unfold subG at pr
  split at pr
  · cases r1; cases r2
    exact ⟨_, _, rfl, rfl, PRo.val pr S (.int _)⟩
  · exact pr.elim
theorem op_mulD : OpD X (binaryOp .Mult) mulG := fun al => by
  refine opImp (op_mul.or op_rep) fun x y H Q ⟨A, ρ, lh, d, e, S, r1, r2, pr⟩ => ?_
  unfold mulG at pr
  split at pr
  · rename_i i j
    cases r1; cases r2
    by_cases hc : (-(2 ^ 64) < i ∧ i < 2 ^ 64) ∨ (-(2 ^ 64) < j ∧ j < 2 ^ 64)
    · rw [if_pos hc] at pr
      exact .inl ⟨_, _, rfl, rfl, hc, PRo.val pr S (.int _)⟩
    · rw [if_neg hc] at pr
      exact pr.elim
  · split at pr
    · rename_i k _ _ xs h1
      obtain ⟨a, vs, rfl, ha, ra⟩ := asM_rel S r1 h1
      cases r2
      by_cases hc : -(2 ^ 63) ≤ k ∧ k < 2 ^ 63 ∧ xs.length * k.toNat ≤ sizeLine
      · rw [if_pos hc] at pr
        exact .inr ⟨a, k, vs, rfl, rfl, ha, hc.1, hc.2.1, by rw [ra.length]; exact hc.2.2, PRo.new pr S (ra.replicate _)⟩
      · rw [if_neg hc] at pr
        exact pr.elim
    · exact pr.elim
  · exact pr.elim
theorem op_modD : OpD X (binaryOp .Mod) modG := fun al => by
  refine opImp op_modN fun x y H Q ⟨A, ρ, lh, d, e, S, r1, r2, pr⟩ => ?_
  unfold modG at pr
  split at pr
  · rename_i i j
    cases r1; cases r2
    by_cases hc : j ≠ 0
    · rw [if_pos hc] at pr
      exact ⟨_, _, rfl, rfl, hc, PRo.val pr S (.int _)⟩
    · rw [if_neg hc] at pr
      exact pr.elim
  · exact pr.elim
theorem op_fdivD : OpD X (binaryOp .FloorDiv) fdivG := fun al => by
  refine opImp op_fdivN fun x y H Q ⟨A, ρ, lh, d, e, S, r1, r2, pr⟩ => ?_
  unfold fdivG at pr
  split at pr
  · rename_i i j
    cases r1; cases r2
    by_cases hc : j ≠ 0 ∧ j.natAbs < 1073741824
    · rw [if_pos hc] at pr
      exact ⟨_, _, rfl, rfl, hc, PRo.val pr S (.int _)⟩
    · rw [if_neg hc] at pr
      exact pr.elim
  · exact pr.elim
theorem op_powD : OpD X (binaryOp .Pow) powG := fun al => by
  intro pins s σ H x y v u Q I rx ry ⟨A, ρ, lh, d, e, S, r1, r2, pr⟩
  unfold powG at pr
  split at pr
  · rename_i i j
    cases r1; cases r2
    obtain ⟨t, rfl⟩ := rx
    obtain ⟨t', rfl⟩ := ry
    by_cases hc : 0 ≤ j ∧ ((Builtin.Int.intBits i : Nat) : Int) * j ≤ 2 ^ 27
    · rw [if_pos hc] at pr
      exact pow_int hc.1 hc.2 ⟨.int _, H, I.tok _, ⟨_, rfl⟩, PRo.val pr S (.int _)⟩
    · rw [if_neg hc] at pr
      exact pr.elim
  · exact pr.elim
theorem un_negD (al : Bool) : UnR X (unaryOp .USub) (rD1 (gx X) al negG) := by
  refine unImp un_neg fun x H Q ⟨A, ρ, lh, d, S, r1, pr⟩ => ?_
  unfold negG at pr
  split at pr
  · cases r1
    exact ⟨_, rfl, PRo.val pr S (.int _)⟩
  · exact pr.elim
end

/-! ### comparisons -/
def fuel : Nat := 12
def eqG (lh : LH) (d e : D) : Ro := match toP lh fuel d, toP lh fuel e with
  | some p, some q => if SeqAt.shaped p = true ∧ SeqAt.shaped q = true then .v (.bl (PyData.eqv p q)) else .no
  | _, _ => .no
def neG (lh : LH) (d e : D) : Ro := match toP lh fuel d, toP lh fuel e with
  | some p, some q => if SeqAt.shaped p = true ∧ SeqAt.shaped q = true then .v (.bl (!PyData.eqv p q)) else .no
  | _, _ => .no
def isSq : PyData → Bool
  | .tuple _ => true
  | .list _ => true
  | _ => false
def ltG (lh : LH) (d e : D) : Ro := match d, e with
  | .int i, .int j => .v (.bl (decide (i < j)))
  | d, e => match toP lh fuel d, toP lh fuel e with
    | some p, some q => if PySem.W.alike p q = true ∧ isSq p = true ∧ p.depth ≤ 64 then .v (.bl (PySem.W.dataLt p q)) else .no
    | _, _ => .no
def leG (_ : LH) (d e : D) : Ro := match d, e with
  | .int i, .int j => .v (.bl (decide (i ≤ j)))
  | _, _ => .no
def gtG (_ : LH) (d e : D) : Ro := match d, e with
  | .int i, .int j => .v (.bl (decide (j < i)))
  | _, _ => .no
def geG (_ : LH) (d e : D) : Ro := match d, e with
  | .int i, .int j => .v (.bl (decide (j ≤ i)))
  | _, _ => .no
/-- is None, is True, is False -/
def isG (_ : LH) (d e : D) : Ro := match d, e with
  | .non, .non => .v (.bl true)
  | _, .non => .v (.bl false)
  | .bl a, .bl b => .v (.bl (decide (a = b)))
  | _, _ => .no
def isNotG (_ : LH) (d e : D) : Ro := match d, e with
  | .non, .non => .v (.bl false)
  | _, .non => .v (.bl true)
  | .bl a, .bl b => .v (.bl (!decide (a = b)))
  | _, _ => .no
def flatD : D → Bool
  | .non | .bl _ | .int _ | .str _ => true
  | _ => false
def eqFlat : D → D → Bool
  | .non, .non => true
  | .bl a, .bl b => a == b
  | .bl a, .int b => (if a then 1 else 0) == b
  | .int a, .bl b => a == (if b then 1 else 0)
  | .int a, .int b => a == b
  | .str a, .str b => a == b
  | _, _ => false
section
variable {X : Cx} {G : Gx} {A : Addr → Prop} {ρ : List Addr} {H : Hp} {lh : LH} {v w : V} {d e : D}
theorem flat_rel (r : VR G A ρ H v d) (h : flatD d = true) : flatV v = true := by
  cases r <;> first | rfl | cases h
theorem flats_rel : ∀ {vs : List V} {ds : List D}, VRs G A ρ H vs ds → ds.all flatD = true → vs.all flatV = true
  | _, _, .nil, _ => rfl
  | _, _, .cons h r, e => by
    rw [List.all_cons, Bool.and_eq_true] at e ⊢
    exact ⟨flat_rel h e.1, flats_rel r e.2⟩
theorem eqFlat_rel (r : VR G A ρ H v d) (r2 : VR G A ρ H w e) (h : flatD d = true) (h2 : flatD e = true) : eqV v w = eqFlat d e := by
  cases r <;> first | (cases h; done) | (cases r2 <;> first | rfl | (cases h2; done))
theorem inV_rel (r : VR G A ρ H v d) (h : flatD d = true) : ∀ {vs : List V} {ds : List D}, VRs G A ρ H vs ds → ds.all flatD = true → inV v vs = ds.any fun z => eqFlat z d
  | _, _, .nil, _ => rfl
  | w :: vs, f :: ds, .cons h1 r1, e => by
    rw [List.all_cons, Bool.and_eq_true] at e
    have z : inV v (w :: vs) = (eqV w v || inV v vs) := rfl
    rw [z, List.any_cons, inV_rel r h r1 e.2, eqFlat_rel h1 r e.1 h]
theorem op_eqDD (hu : X.A.units + 200 < cLine) : OpD X (compareOp .Eq) eqG := fun al => by
  refine opImp (op_eqD (by omega)) fun x y H Q ⟨A, ρ, lh, d, e, S, r1, r2, pr⟩ => ?_
  unfold eqG at pr
  split at pr
  · rename_i p q h1 h2
    by_cases hc : SeqAt.shaped p = true ∧ SeqAt.shaped q = true
    · rw [if_pos hc] at pr
      exact ⟨p, q, toP_dp S _ r1 h1, toP_dp S _ r2 h2, hc.1, hc.2, PRo.val pr S (.bl _)⟩
    · rw [if_neg hc] at pr
      exact pr.elim
  · exact pr.elim
theorem op_neDD (hu : X.A.units + 200 < cLine) : OpD X (compareOp .NotEq) neG := fun al => by
  refine opImp (op_neD (by omega)) fun x y H Q ⟨A, ρ, lh, d, e, S, r1, r2, pr⟩ => ?_
  unfold neG at pr
  split at pr
  · rename_i p q h1 h2
    by_cases hc : SeqAt.shaped p = true ∧ SeqAt.shaped q = true
    · rw [if_pos hc] at pr
      exact ⟨p, q, toP_dp S _ r1 h1, toP_dp S _ r2 h2, hc.1, hc.2, PRo.val pr S (.bl _)⟩
    · rw [if_neg hc] at pr
      exact pr.elim
  · exact pr.elim
theorem op_leD : OpD X (compareOp .LtE) leG := fun al => by
  refine opImp op_le fun x y H Q ⟨A, ρ, lh, d, e, S, r1, r2, pr⟩ => ?_
  unfold leG at pr
  split at pr
  · cases r1; cases r2
    exact ⟨_, _, rfl, rfl, PRo.val pr S (.bl _)⟩
  · exact pr.elim
theorem op_gtD : OpD X (compareOp .Gt) gtG := fun al => by
  refine opImp op_gt fun x y H Q ⟨A, ρ, lh, d, e, S, r1, r2, pr⟩ => ?_
  unfold gtG at pr
  split at pr
  · cases r1; cases r2
    exact ⟨_, _, rfl, rfl, PRo.val pr S (.bl _)⟩
  · exact pr.elim
theorem op_geD : OpD X (compareOp .GtE) geG := fun al => by
  refine opImp op_ge fun x y H Q ⟨A, ρ, lh, d, e, S, r1, r2, pr⟩ => ?_
  unfold geG at pr
  split at pr
  · cases r1; cases r2
    exact ⟨_, _, rfl, rfl, PRo.val pr S (.bl _)⟩
  · exact pr.elim
theorem op_ltD (hu : X.A.units + 200 < cLine) : OpD X (compareOp .Lt) ltG := fun al => by
  intro pins s σ H x y v u Q I rx ry ⟨A, ρ, lh, d, e, S, r1, r2, pr⟩
  unfold ltG at pr
  split at pr
  · cases r1; cases r2
    exact op_lt pins s σ H _ _ v u Q I rx ry ⟨_, _, rfl, rfl, PRo.val pr S (.bl _)⟩
  · split at pr
    · rename_i p q h1 h2
      by_cases hc : PySem.W.alike p q = true ∧ isSq p = true ∧ p.depth ≤ 64
      · rw [if_pos hc] at pr
        obtain ⟨as, ra⟩ := Dp.reads I p x v (toP_dp S _ r1 h1) rx
        obtain ⟨bs, rb⟩ := Dp.reads I q y u (toP_dp S _ r2 h2) ry
        refine PySem.W.rcLt_alike p q X.A s v u as bs ra rb hc.1 (fun z => by rw [z] at hc; exact absurd hc.2.1 (by simp [isSq])) ?_ X.prog X.w _ _ ⟨.bl _, H, I, rfl, PRo.val pr S (.bl _)⟩
        have := hc.2.2
        omega
      · rw [if_neg hc] at pr
        exact pr.elim
    · exact pr.elim
theorem non_rel (r : VR G A ρ H v d) : decide (v = .non) = (match d with
  | .non => true
  | _ => false) := by
  cases r <;> simp
theorem op_isD : OpD X (compareOp .Is) isG := fun al => by
  refine opImp (op_isN.or op_isBl) fun x y H Q ⟨A, ρ, lh, d, e, S, r1, r2, pr⟩ => ?_
  unfold isG at pr
  split at pr
  · cases r1; cases r2
    exact .inl ⟨rfl, PRo.val pr S (.bl _)⟩
  · rename_i hd
    cases r2
    refine .inl ⟨rfl, ?_⟩
    have : decide (x = .non) = false := by
      cases r1 <;> first | (simp; done) | exact (hd rfl).elim
    rw [this]
    exact PRo.val pr S (.bl _)
  · cases r1; cases r2
    exact .inr ⟨_, _, rfl, rfl, PRo.val pr S (.bl _)⟩
  · exact pr.elim
theorem op_isNotD : OpD X (compareOp .IsNot) isNotG := fun al => by
  refine opImp (op_notN.or op_notBl) fun x y H Q ⟨A, ρ, lh, d, e, S, r1, r2, pr⟩ => ?_
  unfold isNotG at pr
  split at pr
  · cases r1; cases r2
    exact .inl ⟨rfl, PRo.val pr S (.bl _)⟩
  · rename_i hd
    cases r2
    refine .inl ⟨rfl, ?_⟩
    have : decide (x = .non) = false := by
      cases r1 <;> first | (simp; done) | exact (hd rfl).elim
    rw [this]
    exact PRo.val pr S (.bl _)
  · cases r1; cases r2
    exact .inr ⟨_, _, rfl, rfl, PRo.val pr S (.bl _)⟩
  · exact pr.elim
end
end Tb

/-! Dicts with nested keys, membership, subscripts, slices, chains, truth. -/
namespace Tb
open PySem PySem.Spec PyProof.Rows L2

/-! ### keys -/
section
variable {X : Cx} {pins : List (Addr × Obj)} {σ : L2.St} {s : Shared} {A : Addr → Prop} {ρ : List Addr} {H : Hp}
theorem key_rel (I : L2.Inv X pins σ H s) : ∀ (n : Nat) {v : V} {u : Value} {d : D} {k : NestedKey}, VR (gx X) A ρ H v d → L2.RelV v u → toKey n d = some k → NestedIs s.heap k u ∧ k.depth ≤ n := by
  intro n
  induction n with
  | zero => intro v u d k _ _ h; cases h
  | succ n ih =>
    have all : ∀ {vs : List V} {us : List Value} {ds : List D} {ks : List NestedKey}, VRs (gx X) A ρ H vs ds → Vals vs us → mapO (toKey n) ds = some ks → NestedAll s.heap ks us ∧ NestedKey.depthAll ks ≤ n := by
      intro vs us ds
      induction ds generalizing vs us with
      | nil => intro ks r ru h; cases r; cases ru; cases h; exact ⟨.nil, Nat.zero_le _⟩
      | cons d ds ih2 =>
        intro ks r ru h
        cases r with
        | cons r1 r2 =>
          cases ru with
          | cons u1 u2 =>
            obtain ⟨y, ys, h1, h2, rfl⟩ := mapO_cons h
            obtain ⟨a1, a2⟩ := ih r1 u1 h1
            obtain ⟨b1, b2⟩ := ih2 r2 u2 h2
            refine ⟨.cons a1 b1, ?_⟩
            simp only [NestedKey.depthAll]
            omega
    intro v u d k r ru h
    cases r with
    | non => cases h; cases ru; exact ⟨.none, Nat.zero_le _⟩
    | bl b => cases h; cases ru; exact ⟨.bool rfl, Nat.zero_le _⟩
    | int b => cases h; obtain ⟨t, rfl⟩ := ru; exact ⟨.int _ _, Nat.zero_le _⟩
    | str b => cases h; obtain ⟨t, rfl⟩ := ru; exact ⟨.text _ _, Nat.zero_le _⟩
    | @tup a vs ds q r =>
      simp only [toKey] at h
      cases e : mapO (toKey n) ds with
      | none => rw [e] at h; cases h
      | some ks =>
        rw [e] at h
        cases h
        obtain rfl : u = Value.ref a := ru
        obtain ⟨its, rv, ⟨o, ho, hc, n', hd⟩, hz⟩ := I.tuple q
        obtain ⟨h1, h2⟩ := all r rv e
        refine ⟨.tup ho hc hd (by simpa using h1), ?_⟩
        simp only [NestedKey.depth]
        omega
    | _ => simp only [toKey] at h; cases h
theorem keyIs_rel (I : L2.Inv X pins σ H s) {a : Addr} {d : D} {k : NestedKey} (r : VR (gx X) A ρ H (.ref a) d) (h : toKey 8 d = some k) : (nestedKind X.prog X.w).is s.heap k a := key_rel I 8 r rfl h
theorem dr_keys (I : L2.Inv X pins σ H s) : ∀ {xs : List DEnt} {ks us : List D}, DR (gx X) A ρ H xs ks us → ∀ x ∈ xs, (nestedKind X.prog X.w).is s.heap x.1 x.2.1
  | _, _, _, .nil => fun x hx => absurd hx (by simp)
  | _, _, _, .cons e h r h2 t => fun x hx => by
    rcases List.mem_cons.mp hx with z | z
    · rw [z]; exact keyIs_rel I h e
    · exact dr_keys I t x z
end
/-- what stands at a key -/
def dLook (k : NestedKey) : List D → List D → Option D
  | q :: ks, u :: us => if toKey 8 q = some k then some u else dLook k ks us
  | _, _ => none
/-- a key's value is stored -/
def dPut (k : NestedKey) (kd v : D) : List D → List D → List D × List D
  | q :: ks, u :: us => if toKey 8 q = some k then (q :: ks, v :: us) else ((q :: (dPut k kd v ks us).1), (u :: (dPut k kd v ks us).2))
  | _, _ => ([kd], [v])
section
variable {G : Gx} {A : Addr → Prop} {ρ : List Addr} {H : Hp}
theorem atKey_cons (x : DEnt) (xs : List DEnt) (k : NestedKey) : atKey (x :: xs) k = if x.1 = k then some x.2 else atKey xs k := by
  unfold atKey
  by_cases h : x.1 = k
  · simp [h]
  · simp [h]
theorem look_rel (k : NestedKey) : ∀ {xs : List DEnt} {ks us : List D}, DR G A ρ H xs ks us → (match dLook k ks us with
    | some d => ∃ p v, atKey xs k = some p ∧ L2.RelV v p.2 ∧ VR G A ρ H v d
    | none => atKey xs k = none)
  | _, _, _, .nil => rfl
  | _, _, _, .cons (nk := nk) (ad := ad) (u := u) (v := v) (k := q) (d := d) (xs := xs) (ks := ks) (us := us) e h r h2 t => by
    have ih := look_rel k t
    unfold dLook
    rw [atKey_cons]
    by_cases hk : nk = k
    · subst hk
      rw [if_pos e, if_pos rfl]
      exact ⟨_, v, rfl, r, h2⟩
    · have : ¬ toKey 8 q = some k := fun z => hk (by rw [e] at z; exact Option.some.inj z)
      rw [if_neg this, if_neg hk]
      exact ih
theorem DR.length : ∀ {xs : List DEnt} {ks us : List D}, DR G A ρ H xs ks us → xs.length = ks.length
  | _, _, _, .nil => rfl
  | _, _, _, .cons e h r h2 t => by rw [List.length_cons, List.length_cons, DR.length t]
theorem storedH_cons (x : DEnt) (xs : List DEnt) (k : NestedKey) (a : Addr) (v : Value) : storedH (x :: xs) k a v = if x.1 = k then (x.1, x.2.1, v) :: xs.map (putAt k v) else x :: storedH xs k a v := by
  unfold storedH
  rw [atKey_cons]
  by_cases h : x.1 = k
  · rw [if_pos h, if_pos h]
    simp [putAt, h]
  · rw [if_neg h, if_neg h]
    by_cases h2 : (atKey xs k).isSome = true
    · rw [if_pos h2, if_pos h2]
      simp [putAt, h]
    · rw [if_neg h2, if_neg h2]
      rfl
theorem putAt_id (k : NestedKey) (v : Value) : ∀ {xs : List DEnt}, k ∉ xs.map (·.1) → xs.map (putAt k v) = xs
  | [], _ => rfl
  | x :: xs, h => by
    rw [List.map_cons, List.mem_cons, not_or] at h
    rw [List.map_cons, putAt_id k v h.2]
    unfold putAt
    rw [if_neg (Ne.symm h.1)]
theorem put_rel (k : NestedKey) {kd : D} {ad : Addr} {v : V} {u : Value} {d : D} (e : toKey 8 kd = some k) (h : VR G A ρ H (.ref ad) kd) (r : L2.RelV v u) (h2 : VR G A ρ H v d) : ∀ {xs : List DEnt} {ks us : List D}, DR G A ρ H xs ks us → (xs.map (·.1)).Nodup →
    DR G A ρ H (storedH xs k ad u) (dPut k kd d ks us).1 (dPut k kd d ks us).2
  | _, _, _, .nil, _ => .cons e h r h2 .nil
  | _, _, _, .cons (nk := nk) (ad := ad') (u := u') (v := v') (k := q) (d := d') (xs := xs) (ks := ks) (us := us) e' h' r' h2' t, nd => by
    rw [List.map_cons, List.nodup_cons] at nd
    have ih := put_rel k e h r h2 t nd.2
    rw [storedH_cons]
    unfold dPut
    by_cases hk : nk = k
    · subst hk
      rw [if_pos e', if_pos rfl]
      have e3 : List.map (putAt nk u) xs = xs := putAt_id _ _ nd.1
      rw [e3]
      exact .cons e' h' r h2 t
    · have : ¬ toKey 8 q = some k := fun z => hk (by rw [e'] at z; exact Option.some.inj z)
      rw [if_neg this, if_neg hk]
      exact .cons e' h' r' h2' ih
end
/-- a dict's keys and values -/
def asDic (lh : LH) : D → Option (List D × List D)
  | .dic ks us => some (ks, us)
  | .loc n => (match lh[n]? with
    | some (.dic ks us) => some (ks, us)
    | _ => none)
  | _ => none
theorem asDic_rel {G : Gx} {A : Addr → Prop} {ρ : List Addr} {H : Hp} {lh : LH} {v : V} {d : D} {p : List D × List D} (S : SR G A ρ H lh) (r : VR G A ρ H v d) (h : asDic lh d = some p) : ∃ a xs, v = .ref a ∧ H a = some (.ext (DicP G.P G.w a xs)) ∧ DR G A ρ H xs p.1 p.2 := by
  cases r with
  | @dic a xs ks us q _ _ r => cases h; exact ⟨a, xs, rfl, q, r⟩
  | @loc n a q =>
    unfold asDic at h
    cases e : lh[n]? with
    | none => simp only [e] at h; cases h
    | some o =>
      simp only [e] at h
      cases o with
      | dic ks us =>
        cases h
        obtain ⟨b, h1, xs, h2, h3⟩ := S.obj n _ e
        rw [q] at h1
        cases h1
        exact ⟨a, xs, rfl, h2, h3⟩
      | _ => cases h
  | _ => cases h
theorem dicP_of {X : Cx} {pins : List (Addr × Obj)} {σ : L2.St} {s : Shared} {A : Addr → Prop} {ρ : List Addr} {H : Hp} {a : Addr} {xs : List DEnt} {ks us : List D} (I : L2.Inv X pins σ H s) (h : H a = some (.ext (DicP X.prog X.w a xs))) (r : DR (gx X) A ρ H xs ks us) :
    s.heap.DictOfH (nestedKind X.prog X.w) a xs ∧ (a == sysModules) = false ∧ xs.length ≤ sizeLine := by
  obtain ⟨⟨o, es, ep, h1, h2, h3, h4, h5, h6, h7⟩, _, _⟩ := I.hok a _ h
  exact ⟨⟨o, es, ep, h1, h2, h3, h4, dr_keys I r, h5⟩, h6, h7⟩

/-! ### membership -/
def inG (lh : LH) (d e : D) : Ro := match e with
  | .tup es => if flatD d = true ∧ es.all flatD = true then .v (.bl (es.any fun z => eqFlat z d)) else .no
  | e => match asDic lh e with
    | some (ks, us) => (match d with
      | .tup _ => (match toKey 8 d with
        | some k => .v (.bl (dLook k ks us).isSome)
        | none => .no)
      | _ => .no)
    | none => (match toP lh fuel d, toP lh fuel e with
      | some p, some (.list qs) => if SeqAt.shaped p = true ∧ SeqAt.shaped (.list qs) = true then .v (.bl (qs.any fun z => PyData.eqv z p)) else .no
      | _, _ => .no)
def notRo : Ro → Ro
  | .v (.bl b) => .v (.bl (!b))
  | _ => .no
def notInG (lh : LH) (d e : D) : Ro := notRo (inG lh d e)
theorem isSome_look {G : Gx} {A : Addr → Prop} {ρ : List Addr} {H : Hp} {k : NestedKey} {xs : List DEnt} {ks us : List D} (t : DR G A ρ H xs ks us) : (atKey xs k).isSome = (dLook k ks us).isSome := by
  have h := look_rel k t
  cases e : dLook k ks us with
  | none => rw [e] at h; rw [h]; rfl
  | some d =>
    rw [e] at h
    obtain ⟨p, v, h1, _⟩ := h
    rw [h1]
    rfl
theorem tupRef {G : Gx} {A : Addr → Prop} {ρ : List Addr} {H : Hp} {v : V} {ds : List D} (r : VR G A ρ H v (.tup ds)) : ∃ a, v = .ref a := by
  cases r
  exact ⟨_, rfl⟩
section
variable {X : Cx}
theorem op_inDD (hu : X.A.units + 200 < cLine) : OpD X (compareOp .In) inG := fun al => by
  intro pins s σ H x y v u Q I rx ry ⟨A, ρ, lh, d, e, S, r1, r2, pr⟩
  unfold inG at pr
  split at pr
  · rename_i es
    by_cases hc : flatD d = true ∧ es.all flatD = true
    · rw [if_pos hc] at pr
      cases r2 with
      | @tup b ws _ qb rb =>
        refine op_in_seq pins s σ H _ _ v u Q I rx ry ⟨b, ws, rfl, .inr qb, flat_rel r1 hc.1, flats_rel rb hc.2, ?_⟩
        rw [inV_rel r1 hc.1 rb hc.2]
        exact PRo.val pr S (.bl _)
    · rw [if_neg hc] at pr
      exact pr.elim
  · split at pr
    · rename_i ks us hd
      obtain ⟨a, xs, rfl, ha, dr⟩ := asDic_rel S r2 hd
      split at pr
      · split at pr
        · rename_i k hk
          obtain ⟨b, rfl⟩ := tupRef r1
          obtain ⟨h1, h2, h3⟩ := dicP_of I ha dr
          obtain rfl : v = Value.ref b := rx
          obtain rfl : u = Value.ref a := ry
          refine wpAny_in_heap (knd := nestedKind X.prog X.w) (by show X.A.units + 1 + 8 < cLine; omega) (keyIs_rel I r1 hk) h2 h1 ⟨.bl _, H, I.tok _, rfl, ?_⟩
          rw [isSome_look dr]
          exact PRo.val pr S (.bl _)
        · exact pr.elim
      · exact pr.elim
    · split at pr
      · rename_i p qs h1 h2
        by_cases hc : SeqAt.shaped p = true ∧ SeqAt.shaped (.list qs) = true
        · rw [if_pos hc] at pr
          exact op_inD (by omega) pins s σ H _ _ v u Q I rx ry ⟨p, qs, toP_dp S _ r1 h1, toP_dp S _ r2 h2, hc.1, hc.2, PRo.val pr S (.bl _)⟩
        · rw [if_neg hc] at pr
          exact pr.elim
      · exact pr.elim
theorem op_notInDD (hu : X.A.units + 200 < cLine) : OpD X (compareOp .NotIn) notInG := fun al => by
  intro pins s σ H x y v u Q I rx ry ⟨A, ρ, lh, d, e, S, r1, r2, pr⟩
  unfold notInG inG at pr
  split at pr
  · rename_i es
    by_cases hc : flatD d = true ∧ es.all flatD = true
    · rw [if_pos hc] at pr
      cases r2 with
      | @tup b ws _ qb rb =>
        refine op_notIn_seq pins s σ H _ _ v u Q I rx ry ⟨b, ws, rfl, .inr qb, flat_rel r1 hc.1, flats_rel rb hc.2, ?_⟩
        rw [inV_rel r1 hc.1 rb hc.2]
        exact PRo.val pr S (.bl _)
    · rw [if_neg hc] at pr
      exact pr.elim
  · split at pr
    · rename_i ks us hd
      obtain ⟨a, xs, rfl, ha, dr⟩ := asDic_rel S r2 hd
      split at pr
      · split at pr
        · rename_i k hk
          obtain ⟨b, rfl⟩ := tupRef r1
          obtain ⟨h1, h2, h3⟩ := dicP_of I ha dr
          obtain rfl : v = Value.ref b := rx
          obtain rfl : u = Value.ref a := ry
          refine notIn_keyed (knd := nestedKind X.prog X.w) (by show X.A.units + 1 + 8 < cLine; omega) (keyIs_rel I r1 hk) h2 ⟨xs, h1, rfl⟩ ⟨.bl _, H, I.tok _, rfl, ?_⟩
          rw [valueAt_pairsH, Option.isSome_map]
          rw [isSome_look dr]
          exact PRo.val pr S (.bl _)
        · exact pr.elim
      · exact pr.elim
    · split at pr
      · rename_i p qs h1 h2
        by_cases hc : SeqAt.shaped p = true ∧ SeqAt.shaped (.list qs) = true
        · rw [if_pos hc] at pr
          exact op_notInD (by omega) pins s σ H _ _ v u Q I rx ry ⟨p, qs, toP_dp S _ r1 h1, toP_dp S _ r2 h2, hc.1, hc.2, PRo.val pr S (.bl _)⟩
        · rw [if_neg hc] at pr
          exact pr.elim
      · exact pr.elim
end

/-! ### subscripts -/
def ixG (lh : LH) (d e : D) : Ro := match e with
  | .int i => (match asS lh d with
    | some xs => (match atI xs i with
      | some z => .v z
      | none => .no)
    | none => .no)
  | .tup _ => (match asDic lh d with
    | some (ks, us) => (match toKey 8 e with
      | some k => (match dLook k ks us with
        | some z => .v z
        | none => .no)
      | none => .no)
    | none => .no)
  | _ => .no
theorem atI_rel {G : Gx} {A : Addr → Prop} {ρ : List Addr} {H : Hp} {vs : List V} {ds : List D} {i : Int} {d : D} (r : VRs G A ρ H vs ds) (h : atI ds i = some d) : ∃ v, atI vs i = some v ∧ VR G A ρ H v d := by
  unfold atI at h ⊢
  rw [r.length]
  cases e : ixN ds.length i with
  | none => rw [e] at h; cases h
  | some j =>
    rw [e] at h
    exact r.get h
section
variable {X : Cx}
theorem ix_D (hu : X.A.units + 200 < cLine) : IxR X (rD (gx X) false ixG) := by
  intro value slice pins s σ H x y v u Q I rx ry ⟨A, ρ, lh, d, e, S, r1, r2, pr⟩ hs
  unfold ixG at pr
  split at pr
  · rename_i i
    split at pr
    · rename_i xs h1
      split at pr
      · rename_i z h2
        obtain ⟨a, vs, rfl, hq, rs⟩ := asS_rel S r1 h1
        obtain ⟨w, hw, rw'⟩ := atI_rel rs h2
        cases r2
        rcases hq with hq | hq
        · exact ix_list value slice pins s σ H _ _ v u Q I rx ry ⟨a, vs, i, w, rfl, rfl, hq, hw, PRo.val pr S rw'⟩ hs
        · exact ix_tup value slice pins s σ H _ _ v u Q I rx ry ⟨a, vs, i, w, rfl, rfl, hq, hw, PRo.val pr S rw'⟩ hs
      · exact pr.elim
    · exact pr.elim
  · split at pr
    · rename_i ks us hd
      split at pr
      · rename_i k hk
        split at pr
        · rename_i z hz
          obtain ⟨a, xs, rfl, ha, dr⟩ := asDic_rel S r1 hd
          obtain ⟨b, rfl⟩ := tupRef r2
          obtain ⟨h1, h2, h3⟩ := dicP_of I ha dr
          obtain rfl : v = Value.ref a := rx
          obtain rfl : u = Value.ref b := ry
          have lk := look_rel k dr
          have hz' : dLook k ks us = some z := hz
          rw [hz'] at lk
          obtain ⟨p, w, e1, e2, e3⟩ := lk
          refine tail_any (ops := [.ref a, .ref b]) h1.typeIs PySem.F.slot_dict_getitem.lookup ?_ hs
          exact wpAny_getItem_heap (knd := nestedKind X.prog X.w) (by show X.A.units + 1 + 8 < cLine; omega) (keyIs_rel I r2 hk) h1 e1 ⟨w, H, I.tok _, e2, PRo.val pr S e3⟩
        · exact pr.elim
      · exact pr.elim
    · exact pr.elim
  · exact pr.elim
theorem ee_sub {W : WX} {a b : Expr} {m1 m2 : EM} {pos : Pos} (hu : X.A.units + 200 < cLine) (ha : EE X W a m1) (hb : EE X W b m2) (hs : PlainIx b := by intro _ _; rfl) : EE X W (.Subscript a b pos) (e2 false ixG m1 m2) := ee_ix (ix_D hu) ha hb hs
end
/-! ### slices -/
abbrev OM := Tau → LH → Res (Option Int)
def oNone : OM := fun _ lh => .ok none lh
def oSome (m : EM) : OM := fun τ lh => (m τ lh).bind fun d lh => match d with
  | .int i => .ok (some i) lh
  | _ => .stuck
def cutD (xs : List D) (lo hi : Option Int) : List D := (xs.drop (HT.sIx xs.length 0 lo)).take (HT.sIx xs.length xs.length hi - HT.sIx xs.length 0 lo)
def slG (lh : LH) (d : D) (lo hi : Option Int) : Ro := match d with
  | .tup xs => .v (.tup (cutD xs lo hi))
  | d => match asL lh d with
    | some xs => .l (cutD xs lo hi)
    | none => .no
def eSl (al : Bool) (m : EM) (lo hi : OM) : EM := fun τ lh => (m τ lh).bind fun d lh => (lo τ lh).bind fun l lh => (hi τ lh).bind fun h lh => (slG lh d l h).res al lh
def revG (lh : LH) (d : D) : Ro := match asL lh d with
  | some xs => .l xs.reverse
  | none => .no
section
variable {X : Cx} {W : WX} {e : Expr} {m : EM} {lo hi : Option Expr} {ol oh : OM} {pos p2 : Pos} {al : Bool}
def tO (G : Gx) (W : WX) (m : OM) : TO := fun σ H Q => ∃ A ρ τ lh, ER G A ρ H σ τ ∧ SR G A ρ H lh ∧ PRg G A ρ H (fun _ _ b a => b = a) (m τ lh) (wAt G W σ) Q
abbrev EO (X : Cx) (W : WX) (e : Option Expr) (m : OM) : Prop := PO X e (tO (gx X) W m)
theorem poImp {X : Cx} {e : Option Expr} {t t' : TO} (h : PO X e t) (i : ∀ σ H Q, t' σ H Q → t σ H Q) : PO X e t' := ⟨fun pins s σ H Q I hw => h.run pins s σ H Q I (i σ H Q hw)⟩
theorem eo_none : EO X W none oNone := poImp po_none fun σ H Q ⟨A, ρ, τ, lh, er, S, pr⟩ => pr ρ H _ (Stp.refl _ _) S rfl
theorem eo_some (h : EE X W e m) : EO X W (some e) (oSome m) :=
  poImp (po_some h) fun σ H Q ⟨A, ρ, τ, lh, er, S, pr⟩ => ⟨A, ρ, τ, lh, er, S, PRg.thn pr fun d lh1 ρ1 H1 x s1 S1 r1 pr1 => by
    cases r1 with
    | int i => exact ⟨i, rfl, pr1 ρ1 H1 _ (Stp.refl _ _) S1 rfl⟩
    | _ => exact pr1.elim⟩
theorem cut_rel {G : Gx} {A : Addr → Prop} {ρ : List Addr} {H : Hp} {vs : List V} {ds : List D} (r : VRs G A ρ H vs ds) (lo hi : Option Int) : VRs G A ρ H (cutV vs lo hi) (cutD ds lo hi) := by
  unfold cutV cutD
  rw [r.length]
  exact (r.drop _).take _
theorem cut_whole {xs : List D} {lo hi : Option Int} (h : HT.sIx xs.length 0 lo = 0 ∧ HT.sIx xs.length xs.length hi = xs.length) : cutD xs lo hi = xs := by
  unfold cutD
  rw [h.1, h.2]
  simp
theorem ee_sl (al : Bool) (he : EE X W e m) (hl : EO X W lo ol) (hh : EO X W hi oh) : EE X W (.Subscript e (.Slice lo hi none p2) pos) (eSl al m ol oh) :=
  peImp (pe_slice (sl_list.or sl_tupA) he hl hh) fun σ H Q ⟨A, ρ, τ, lh, er, S, pr⟩ => ⟨A, ρ, τ, lh, er, S, PRg.thn pr fun d lh1 ρ1 H1 x s1 S1 r1 pr1 => ⟨A, ρ1, τ, lh1, er.stp s1, S1, PRg.thn pr1 fun l lh2 ρ2 H2 l' s2 S2 el pr2 => by
    subst el
    refine ⟨A, ρ2, τ, lh2, (er.stp s1).stp s2, S2, PRg.thn pr2 fun h lh3 ρ3 H3 h' s3 S3 eh pr3 => ?_⟩
    subst eh
    have r3 := (r1.stp s2).stp s3
    have pr4 := PRo.of pr3
    unfold slG at pr4
    split at pr4
    · cases r3 with
      | @tup a vs _ q r =>
        refine .inr ⟨a, vs, rfl, q, fun hw => ?_, fun hw => PRo.tup pr4 S3 (cut_rel r _ _)⟩
        rw [r.length] at hw
        rw [cut_whole hw] at pr4
        exact PRo.val pr4 S3 (.tup q r)
    · split at pr4
      · rename_i xs h1
        obtain ⟨a, vs, rfl, hq, rs⟩ := asL_rel S3 r3 h1
        exact .inl ⟨a, vs, rfl, hq, PRo.new pr4 S3 (cut_rel rs _ _)⟩
      · exact pr4.elim⟩⟩
theorem ee_rev (al : Bool) {k : Nat} {p1 p2 p3 : Pos} (he : EE X W e m) : EE X W (.Subscript e (.Slice none none (some (.UnaryOp .USub (.Constant (.int 1) k p1) p2)) p3) pos) (e1 al revG m) :=
  peImp (pe_revL he) fun σ H Q ⟨A, ρ, τ, lh, er, S, pr⟩ => ⟨A, ρ, τ, lh, er, S, PRg.thn pr fun d lh1 ρ1 H1 x s1 S1 r1 pr1 => by
    have pr4 := PRo.of pr1
    unfold revG at pr4
    split at pr4
    · rename_i xs h1
      obtain ⟨a, vs, rfl, hq, rs⟩ := asL_rel S1 r1 h1
      exact ⟨a, vs, rfl, hq, PRo.new pr4 S1 rs.reverse⟩
    · exact pr4.elim⟩
end
/-! ### a < b < c; and, or, not as values -/
def eChain (g g' : LH → D → D → Ro) (a b c : EM) : EM := fun τ lh => (a τ lh).bind fun x lh => (b τ lh).bind fun y lh => match g lh x y with
  | .v (.bl true) => (c τ lh).bind fun z lh => (g' lh y z).res false lh
  | .v (.bl false) => .ok (.bl false) lh
  | _ => .stuck
section
variable {X : Cx} {W : WX} {a b c : Expr} {m1 m2 m3 : EM} {pos : Pos} {rest : List Expr} {op op' : CmpOp} {g g' : LH → D → D → Ro}
theorem ee_chain (ho : OpD X (compareOp op) g) (ho' : OpD X (compareOp op') g') (ha : EE X W a m1) (hb : EE X W b m2) (hc : EE X W c m3) (hm : lastMarks [op, op'] [b, c] = false := by rfl) : EE X W (.Compare a [op, op'] [b, c] pos) (eChain g g' m1 m2 m3) :=
  peImp (pe_chain (ho false) (ho' false) ha hb hc hm) fun σ H Q ⟨A, ρ, τ, lh, er, S, pr⟩ => ⟨A, ρ, τ, lh, er, S, PRg.thn pr fun d lh1 ρ1 H1 x s1 S1 r1 pr1 => ⟨A, ρ1, τ, lh1, er.stp s1, S1, PRg.thn pr1 fun e lh2 ρ2 H2 y s2 S2 r2 pr2 => ⟨A, ρ2, lh2, d, e, S2, r1.stp s2, r2, by
    cases q : g lh2 d e with
    | v d' =>
      rw [q] at pr2
      cases d' with
      | bl k =>
        intro ρ3 H3 v s3 S3 r3
        cases r3
        cases k with
        | true => exact ⟨true, rfl, iteT ⟨A, ρ3, τ, lh2, ((er.stp s1).stp s2).stp s3, S3, PRg.thn (PRg.stp s3 pr2) fun z lh4 ρ4 H4 w s4 S4 r4 pr4 => ⟨A, ρ4, lh4, e, z, S4, (r2.stp s3).stp s4, r4, PRo.of pr4⟩⟩⟩
        | false => exact ⟨false, rfl, iteF (pr2 ρ3 H3 _ s3 S3 (.bl false))⟩
      | _ => exact pr2.elim
    | l xs => rw [q] at pr2; exact pr2.elim
    | no => rw [q] at pr2; exact pr2.elim⟩⟩⟩
theorem et_chain (h : EE X W (.Compare a [op, op'] [b, rest0] pos) m1) (he : ∀ whole, PySem.isTrue (.Compare a [op, op'] [b, rest0] pos) X.env whole = (do let v ← whole; standAt (Expr.Compare a [op, op'] [b, rest0] pos).pos; holding [v] (truthy v)) := by intro _; rfl) : ET X W (.Compare a [op, op'] [b, rest0] pos) (tOf m1) := et_of h he
end
end Tb

/-! Values by truth, fields, methods of lists, dict displays. -/
namespace Tb
open PySem PySem.Spec PyProof.Rows L2

section
variable {X : Cx} {W : WX} {a b c e o : Expr} {m mo m1 m2 m3 : EM} {pos cpos apos : Pos} {rest : List Expr}
theorem ee_one {op} (h : EE X W a m) : EE X W (.BoolOp op [a] pos) m := pe_one h
theorem ee_and (ha : EE X W a m1) (hb : EE X W (.BoolOp .And (b :: rest) pos) m2) : EE X W (.BoolOp .And (a :: b :: rest) pos) (eAnd m1 m2) :=
  peImp (pe_andT ha hb) fun σ H Q ⟨A, ρ, τ, lh, er, S, pr⟩ => ⟨A, ρ, τ, lh, er, S, PRg.thn pr fun d lh1 ρ1 H1 x s1 S1 r1 pr1 => by
    cases q : truD lh1 d with
    | none => simp only [q] at pr1; exact pr1.elim
    | some k =>
      simp only [q] at pr1
      refine ⟨k, tru_rel S1 r1 q, ?_⟩
      cases k with
      | true => exact iteT ⟨A, ρ1, τ, lh1, er.stp s1, S1, pr1⟩
      | false => exact iteF (pr1 ρ1 H1 _ (Stp.refl _ _) S1 r1)⟩
theorem ee_or (ha : EE X W a m1) (hb : EE X W (.BoolOp .Or (b :: rest) pos) m2) : EE X W (.BoolOp .Or (a :: b :: rest) pos) (eOr m1 m2) :=
  peImp (pe_orT ha hb) fun σ H Q ⟨A, ρ, τ, lh, er, S, pr⟩ => ⟨A, ρ, τ, lh, er, S, PRg.thn pr fun d lh1 ρ1 H1 x s1 S1 r1 pr1 => by
    cases q : truD lh1 d with
    | none => simp only [q] at pr1; exact pr1.elim
    | some k =>
      simp only [q] at pr1
      refine ⟨k, tru_rel S1 r1 q, ?_⟩
      cases k with
      | true => exact iteT (pr1 ρ1 H1 _ (Stp.refl _ _) S1 r1)
      | false => exact iteF ⟨A, ρ1, τ, lh1, er.stp s1, S1, pr1⟩⟩
theorem ee_not (ha : EE X W a m1) : EE X W (.UnaryOp .Not a pos) (eNot m1) :=
  peImp (pe_notT ha) fun σ H Q ⟨A, ρ, τ, lh, er, S, pr⟩ => ⟨A, ρ, τ, lh, er, S, PRg.thn pr fun d lh1 ρ1 H1 x s1 S1 r1 pr1 => by
    cases q : truD lh1 d with
    | none => simp only [q] at pr1; exact pr1.elim
    | some k =>
      simp only [q] at pr1
      exact ⟨k, tru_rel S1 r1 q, pr1 ρ1 H1 _ (Stp.refl _ _) S1 (.bl _)⟩⟩
end

/-! ### fields -/
/-- the instance at a location -/
def insAt (lh : LH) : D → Option (Nat × Str × List (Str × D))
  | .loc n => (match lh[n]? with
    | some (.ins c fs) => some (n, c, fs)
    | _ => none)
  | _ => none
def eFld (f : Str) (m : EM) : EM := fun τ lh => (m τ lh).bind fun d lh => match insAt lh d with
  | some (_, _, fs) => (match fs.lookup f with
    | some v => .ok v lh
    | none => .stuck)
  | none => .stuck
theorem ins_rel {G : Gx} {A : Addr → Prop} {ρ : List Addr} {H : Hp} {lh : LH} {v : V} {d : D} {n : Nat} {c : Str} {fs : List (Str × D)} (S : SR G A ρ H lh) (r : VR G A ρ H v d) (h : insAt lh d = some (n, c, fs)) :
    ∃ a dx gs, d = .loc n ∧ v = .ref a ∧ ρ[n]? = some a ∧ lh[n]? = some (.ins c fs) ∧ H a = some (.ins (He.ga G.K c) dx gs) ∧ FR G A ρ H gs fs := by
  cases r with
  | @loc m a q =>
    unfold insAt at h
    cases e : lh[m]? with
    | none => simp only [e] at h; cases h
    | some o =>
      simp only [e] at h
      cases o with
      | ins c' fs' =>
        cases h
        obtain ⟨b, h1, dx, gs, h2, h3⟩ := S.obj n _ e
        rw [q] at h1
        cases h1
        exact ⟨a, dx, gs, rfl, rfl, q, e, h2, h3⟩
      | _ => cases h
  | _ => cases h
/-- the classes with plain fields: what is read of them -/
def ClsOk (K : PySem.W.Frag) (cs : List (Str × Str)) : Prop := ∀ p ∈ cs, Cls K (He.ga K p.1) ∧ NoAttr K (He.ga K p.1) p.2
section
variable {X : Cx} {W : WX} {a b c e o : Expr} {m mo m1 m2 m3 : EM} {pos cpos apos : Pos} {rest : List Expr}
/-- e.f: the instance is of one of the classes cs -/
def eFldC (cs : List Str) (f : Str) (m : EM) : EM := fun τ lh => (m τ lh).bind fun d lh => match insAt lh d with
  | some (_, c, fs) => if cs.contains c = true then (match fs.lookup f with
    | some v => .ok v lh
    | none => .stuck) else .stuck
  | none => .stuck
theorem ee_fld {f : Str} (cs : List Str) (hc : ∀ c ∈ cs, Cls X.K (He.ga X.K c) ∧ NoAttr X.K (He.ga X.K c) f) (h : EE X W e m) (hb : attributeBase e f X.env (eval e X.env) = eval e X.env := by rfl) : EE X W (.Attribute e f pos) (eFldC cs f m) :=
  peImp (pe_fld h hb) fun σ H Q ⟨A, ρ, τ, lh, er, S, pr⟩ => ⟨A, ρ, τ, lh, er, S, PRg.thn pr fun d lh1 ρ1 H1 x s1 S1 r1 pr1 => by
    cases q : insAt lh1 d with
    | none => simp only [q] at pr1; exact pr1.elim
    | some p =>
      obtain ⟨n, c, fs⟩ := p
      simp only [q] at pr1
      by_cases hm : cs.contains c = true
      · rw [if_pos hm] at pr1
        cases l : fs.lookup f with
        | none => simp only [l] at pr1; exact pr1.elim
        | some v =>
          simp only [l] at pr1
          obtain ⟨a, dx, gs, rfl, rfl, h1, h2, h3, h4⟩ := ins_rel S1 r1 q
          obtain ⟨w, l1, l2⟩ := h4.lookup l
          obtain ⟨k1, k2⟩ := hc c (by simpa using hm)
          exact ⟨a, _, dx, gs, w, rfl, h3, k1, k2, l1, pr1 ρ1 H1 w (Stp.refl _ _) S1 l2⟩
      · rw [if_neg hm] at pr1
        exact pr1.elim⟩
end
/-! ### a location's object changes -/
section
variable {G : Gx} {W : WX} {A : Addr → Prop} {ρ : List Addr} {H : Hp} {lh : LH}
theorem OR.setSelf {a : Addr} {n : Nat} {vs : List V} {ds : List D} (S : SR G A ρ H lh) (hn : ρ[n]? = some a) (r : VRs G A ρ H vs ds) : OR G A ρ (upd H a (.lst vs)) a (.lst ds) := by
  obtain ⟨u, hu, mu⟩ := S.mut (List.mem_of_getElem? hn)
  exact ⟨vs, upd_same, r.stp (stp_set hn hu mu)⟩
/-- the list at the location n becomes ds -/
theorem set_lst {a : Addr} {n : Nat} {vs : List V} {ds : List D} {R : Hp → Prop} (S : SR G A ρ H lh) (hn : ρ[n]? = some a) (r : VRs G A ρ H vs ds) (h : ∀ H', Stp ρ H ρ H' → SR G A ρ H' (lh.set n (.lst ds)) → R H') : R (upd H a (.lst vs)) := by
  obtain ⟨u, hu, mu⟩ := S.mut (List.mem_of_getElem? hn)
  exact h _ (stp_set hn hu mu) (S.set hn (OR.setSelf S hn r))
end
/-- the location of a list of ours, its items -/
def locL (lh : LH) : D → Option (Nat × List D)
  | .loc n => (match lstAt lh n with
    | some xs => some (n, xs)
    | none => none)
  | _ => none
theorem locL_rel {G : Gx} {A : Addr → Prop} {ρ : List Addr} {H : Hp} {lh : LH} {v : V} {d : D} {n : Nat} {xs : List D} (S : SR G A ρ H lh) (r : VR G A ρ H v d) (h : locL lh d = some (n, xs)) : ∃ a vs, d = .loc n ∧ v = .ref a ∧ ρ[n]? = some a ∧ H a = some (.lst vs) ∧ VRs G A ρ H vs xs := by
  cases r with
  | @loc m a q =>
    unfold locL at h
    cases e : lstAt lh m with
    | none => simp only [e] at h; cases h
    | some ys =>
      simp only [e] at h
      cases h
      obtain ⟨b, vs, h1, h2, h3⟩ := S.lst e
      rw [q] at h1
      cases h1
      exact ⟨a, vs, rfl, rfl, q, h2, h3⟩
  | _ => cases h
theorem locL_stp {G : Gx} {A : Addr → Prop} {ρ ρ' : List Addr} {H H' : Hp} {lh' : LH} {n : Nat} {a : Addr} {xs : List D} (S : SR G A ρ' H' lh') (s : Stp ρ H ρ' H') (hn : ρ[n]? = some a) (h : lstAt lh' n = some xs) : ∃ vs, ρ'[n]? = some a ∧ H' a = some (.lst vs) ∧ VRs G A ρ' H' vs xs := by
  obtain ⟨b, vs, h1, h2, h3⟩ := S.lst h
  have q := s.get hn
  rw [q] at h1
  cases h1
  exact ⟨vs, q, h2, h3⟩
/-- xs.m(e): the list is changed, a value comes; g: items, argument -> new items, value -/
def eMt (g : LH → List D → D → Option (List D × D)) (mo m : EM) : EM := fun τ lh => (mo τ lh).bind fun d lh => match locL lh d with
  | some (n, _) => (m τ lh).bind fun e lh => (match lstAt lh n with
    | some xs => (match g lh xs e with
      | some (ys, v) => .ok v (lh.set n (.lst ys))
      | none => .stuck)
    | none => .stuck)
  | none => .stuck
/-- xs.m() -/
def eMt0 (g : List D → Option (List D × D)) (mo : EM) : EM := fun τ lh => (mo τ lh).bind fun d lh => match locL lh d with
  | some (n, xs) => (match g xs with
    | some (ys, v) => .ok v (lh.set n (.lst ys))
    | none => .stuck)
  | none => .stuck
def apG (_ : LH) (xs : List D) (e : D) : Option (List D × D) := if xs.length < sizeLine then some (xs ++ [e], .non) else none
def exG (lh : LH) (xs : List D) (e : D) : Option (List D × D) := match asS lh e with
  | some ys => (match e with
    | .scr _ => none
    | _ => if xs.length + ys.length ≤ sizeLine then some (xs ++ ys, .non) else none)
  | none => none
def popG (xs : List D) : Option (List D × D) := match xs[xs.length - 1]? with
  | some y => some (xs.dropLast, y)
  | none => none
def rvG (xs : List D) : Option (List D × D) := some (xs.reverse, .non)
end Tb
namespace PySem
theorem tb_extend_tup (l : Addr) (items : Array Value) (n : Nat) (b : Addr) (items2 : Array Value) (n2 : Nat) (dd : Option Addr) (sl : Array (Option Value)) (hs0 : ¬(!items.isEmpty && Builtin.List.listTooLong (items.size + items2.size)) = true) (hs1 : items.size ≤ sizeLine) (hs2 : items.size + items2.size ≤ sizeLine + 1) :
    Meets (Builtin.«list.extend» ⟨[.ref l, .ref b], []⟩) (fun _ R s => s.heap.get? l = some { cls := .type "list", dict := none, data := .seq items n, slots := #[] } ∧ s.heap.get? b = some { cls := .type "tuple", dict := dd, data := .seq items2 n2, slots := sl } ∧ R (.ok (.ret Value.none)) { s with heap := s.heap.update l (Obj.mapSeq fun x => x ++ items2), toks := s.toks }) :=
  .of_wp fun prog w A R s h => by
    obtain ⟨hp, g, d, tk, os⟩ := s; obtain ⟨hl, hb, h⟩ := h; have f1 := AutoSeq1.idx_int; have f2 := AutoSeq1.sub_tuple_tuple; have f3 := AutoSeq1.sub_list_list; have f4 := AutoSeq1.sub_tuple_list; have f5 := AutoSeq1.sub_list_tuple;
    have hz' : (items ++ items2).size ≤ sizeLine + 1 := by rw [Array.size_append]; exact hs2
    wp_walk using (wpAny_updateSeq hl rfl (hz := hs1) (_hz' := hz')), AutoSeq1.wpAny_loadPart' hl, AutoSeq1.wpAny_loadPart' hb; exact ⟨_, rfl, h⟩
end PySem
namespace Tb
open PySem PySem.Spec PyProof.Rows L2
def rExtT (K : PySem.W.Frag) : V → List V → Hp → VK → Prop := fun x vs H Q => ∃ l b xs zs, x = .ref l ∧ vs = [.ref b] ∧ H l = some (.lst xs) ∧ SqT K H b zs ∧ xs.length + zs.length ≤ sizeLine ∧ Q .non (upd H l (.lst (xs ++ zs)))
section
variable {X : Cx}
theorem mt_extT : MtM X "list.extend" (rExtT X.K) := by
  intro pins s σ H x vs v us Q I rx rv h
  obtain ⟨l, b, xs, zs, rfl, rfl, hH, hB, hz, q⟩ := h
  cases rx
  obtain ⟨u, rfl, ru⟩ := rv.one
  cases ru
  obtain ⟨z, its, n, r, hl, e⟩ := I.lstM hH
  obtain ⟨its2, r2, ⟨⟨oc, dd, dat, sl⟩, e2, hc, n2, hd⟩, z2⟩ := I.tuple hB
  simp only at hc hd
  subst hc hd
  have hl2 := r2.length
  have hsz : its.toArray.size + its2.toArray.size ≤ sizeLine := by rw [List.size_toArray, List.size_toArray]; omega
  have hlong : ¬ (!its.toArray.isEmpty && Builtin.List.listTooLong (its.toArray.size + its2.toArray.size)) = true := by
    rw [notLongL hsz, Bool.and_false]
    exact Bool.false_ne_true
  refine call_meets F.slot_list_extend ⟨_, e, rfl⟩ F.entry_list_extend (F.args_list_extend_2 _ _)
    (PySem.tb_extend_tup l its.toArray n b its2.toArray n2 dd sl hlong (by rw [List.size_toArray]; omega) (by omega)) ⟨e, e2, ?_⟩
  refine ⟨.non, _, I.lset (its' := its ++ its2) hH e (by simp) (r.append r2) ?_, rfl, q⟩
  rw [List.length_append]
  omega
theorem MtM.or {id : String} {r r' : V → List V → Hp → VK → Prop} (h : MtM X id r) (h' : MtM X id r') : MtM X id (fun x xs H Q => r x xs H Q ∨ r' x xs H Q) := fun pins s σ H x xs v us Q I rx rv z => z.elim (h pins s σ H x xs v us Q I rx rv) (h' pins s σ H x xs v us Q I rx rv)
variable {W : WX} {o e : Expr} {mo m : EM} {pos cpos apos : Pos}
/-- o.m(e), m a method of lists that changes the list by g -/
theorem ee_mt {g : LH → List D → D → Option (List D × D)} {name : Str} {id : String} {r : V → List V → Hp → VK → Prop} (slot : Slot "list" name id) (hty : typeOf (.builtin id) = pure (.type "method_descriptor")) (hm : MtR X id r)
    (hg : ∀ (A : Addr → Prop) (ρ : List Addr) (H : Hp) (lh : LH) (a : Addr) (n : Nat) (vs : List V) (xs ys : List D) (w : V) (e d : D) (Q : VK), SR (gx X) A ρ H lh → ρ[n]? = some a → lstAt lh n = some xs → H a = some (.lst vs) → VRs (gx X) A ρ H vs xs → VR (gx X) A ρ H w e → g lh xs e = some (ys, d) →
      (∀ v vs' , VRs (gx X) A ρ H vs' ys → VR (gx X) A ρ H v d → Q v (upd H a (.lst vs'))) → r (.ref a) [w] H Q)
    (hp : ∀ (lh : LH) (xs ys : List D) (e d : D), g lh xs e = some (ys, d) → d = .non)
    (ho : EE X W o mo) (ha : EE X W e m) (hb : attributeBase o name X.env (eval o X.env) = eval o X.env := by rfl)
    (h2 : (((((backTo cpos (starEach (e :: []) X.env)).all fun x => !x.fst) && (backToKw cpos (keywordEach [] X.env)).all fun x => x.fst.isSome) && decide (((e :: []).length + ([] : List Keyword).length + if ([] : List Keyword).isEmpty = true then 0 else 1) < 30)) = true) := by rfl)
    (h3 : (apos.endLine == cpos.line) = true := by rfl) (hs : starEach (e :: []) X.env = (false, eval e X.env) :: starEach [] X.env := by rfl) (h5 : ((backTo cpos (starEach [] X.env)).any fun x => x.fst) = false := by rfl) :
    EE X W (.Call (.Attribute o name apos) [e] [] cpos) (eMt g mo m) :=
  peImp (pe_bm PySem.F.plainAttrs_list slot hty hm ho (pa_cons ha pa_nil hs) hb h2 h3 hs h5) fun σ H Q ⟨A, ρ, τ, lh, er, S, pr⟩ => ⟨A, ρ, τ, lh, er, S, PRg.thn pr fun d lh1 ρ1 H1 x s1 S1 r1 pr1 => by
    cases q : locL lh1 d with
    | none => simp only [q] at pr1; exact pr1.elim
    | some p =>
      obtain ⟨n, xs0⟩ := p
      simp only [q] at pr1
      obtain ⟨a, vs0, rfl, rfl, hn, h4, _⟩ := locL_rel S1 r1 q
      refine ⟨Or.inl ⟨rfl, vs0, SqL.of h4⟩, A, ρ1, τ, lh1, er.stp s1, S1, PRg.thn pr1 fun e' lh2 ρ2 H2 w s2 S2 r2 pr2 => ?_⟩
      cases q2 : lstAt lh2 n with
      | none => simp only [q2] at pr2; exact pr2.elim
      | some xs =>
        simp only [q2] at pr2
        cases q3 : g lh2 xs e' with
        | none => simp only [q3] at pr2; exact pr2.elim
        | some p =>
          obtain ⟨ys, dv⟩ := p
          simp only [q3] at pr2
          obtain ⟨vs, k1, k2, k3⟩ := locL_stp S2 s2 hn q2
          refine hg A ρ2 H2 lh2 a n vs xs ys w e' dv Q S2 k1 q2 k2 k3 r2 q3 fun v vs' z1 z2 => ?_
          have en := hp _ _ _ _ _ q3
          subst en
          cases z2
          exact set_lst S2 k1 z1 fun H' t1 t2 => pr2 ρ2 H' _ t1 t2 .non⟩
theorem apG_non (lh : LH) (xs ys : List D) (e d : D) (h : apG lh xs e = some (ys, d)) : d = .non := by
  unfold apG at h
  split at h
  · cases h; rfl
  · cases h
theorem exG_non (lh : LH) (xs ys : List D) (e d : D) (h : exG lh xs e = some (ys, d)) : d = .non := by
  unfold exG at h
  split at h
  · split at h
    · cases h
    · split at h
      · cases h; rfl
      · cases h
  · cases h
theorem ee_append (ho : EE X W o mo) (ha : EE X W e m) (hb : attributeBase o "append" X.env (eval o X.env) = eval o X.env := by rfl)
    (h2 : (((((backTo cpos (starEach (e :: []) X.env)).all fun x => !x.fst) && (backToKw cpos (keywordEach [] X.env)).all fun x => x.fst.isSome) && decide (((e :: []).length + ([] : List Keyword).length + if ([] : List Keyword).isEmpty = true then 0 else 1) < 30)) = true) := by rfl)
    (h3 : (apos.endLine == cpos.line) = true := by rfl) (hs : starEach (e :: []) X.env = (false, eval e X.env) :: starEach [] X.env := by rfl) (h5 : ((backTo cpos (starEach [] X.env)).any fun x => x.fst) = false := by rfl) : EE X W (.Call (.Attribute o "append" apos) [e] [] cpos) (eMt apG mo m) :=
  ee_mt PySem.F.slot_list_append PySem.F.type_list_append mt_append (fun A ρ H lh a n vs xs ys w e d Q S hn hl ha rs rw' hg k => by
    have en := apG_non _ _ _ _ _ hg
    subst en
    unfold apG at hg
    split at hg
    · rename_i hz
      cases hg
      exact ⟨a, vs, w, rfl, rfl, ha, by rw [rs.length]; exact hz, k .non _ (rs.append (.cons rw' .nil)) .non⟩
    · cases hg) apG_non ho ha hb h2 h3 hs h5
theorem ee_extend (ho : EE X W o mo) (ha : EE X W e m) (hb : attributeBase o "extend" X.env (eval o X.env) = eval o X.env := by rfl)
    (h2 : (((((backTo cpos (starEach (e :: []) X.env)).all fun x => !x.fst) && (backToKw cpos (keywordEach [] X.env)).all fun x => x.fst.isSome) && decide (((e :: []).length + ([] : List Keyword).length + if ([] : List Keyword).isEmpty = true then 0 else 1) < 30)) = true) := by rfl)
    (h3 : (apos.endLine == cpos.line) = true := by rfl) (hs : starEach (e :: []) X.env = (false, eval e X.env) :: starEach [] X.env := by rfl) (h5 : ((backTo cpos (starEach [] X.env)).any fun x => x.fst) = false := by rfl) : EE X W (.Call (.Attribute o "extend" apos) [e] [] cpos) (eMt exG mo m) :=
  ee_mt PySem.F.slot_list_extend PySem.F.type_list_extend (MtM.or mt_extend mt_extT) (fun A ρ H lh a n vs xs ys w e d Q S hn hl ha rs rw' hg k => by
    have en := exG_non _ _ _ _ _ hg
    subst en
    unfold exG at hg
    split at hg
    · rename_i zs h1
      split at hg
      · cases hg
      · rename_i hns
        split at hg
        · rename_i hz
          cases hg
          cases rw' with
          | @tup b ws _ q r => cases h1; exact .inr ⟨a, b, vs, ws, rfl, rfl, ha, q, by rw [rs.length, r.length]; exact hz, k .non _ (rs.append r) .non⟩
          | @lst b ws _ q _ _ r => cases h1; exact .inl ⟨a, b, vs, ws, rfl, rfl, ha, q, by rw [rs.length, r.length]; exact hz, k .non _ (rs.append r) .non⟩
          | @scr b ws ds q r => exact absurd rfl (hns ds)
          | @loc n b q =>
            obtain ⟨c, ws, e1, e2, e3⟩ := S.lst h1
            rw [q] at e1
            cases e1
            exact .inl ⟨a, b, vs, ws, rfl, rfl, ha, e2, by rw [rs.length, e3.length]; exact hz, k .non _ (rs.append e3) .non⟩
          | _ => cases h1
        · cases hg
    · cases hg) exG_non ho ha hb h2 h3 hs h5
/-- o.m() -/
theorem ee_mt0 {g : List D → Option (List D × D)} {name : Str} {id : String} {r : V → List V → Hp → VK → Prop} (slot : Slot "list" name id) (hty : typeOf (.builtin id) = pure (.type "method_descriptor")) (hm : MtR X id r)
    (hg : ∀ (A : Addr → Prop) (ρ : List Addr) (H : Hp) (a : Addr) (vs : List V) (xs ys : List D) (d : D) (Q : VK), H a = some (.lst vs) → VRs (gx X) A ρ H vs xs → g xs = some (ys, d) → (∀ v vs' , VRs (gx X) A ρ H vs' ys → VR (gx X) A ρ H v d → Q v (upd H a (.lst vs'))) → r (.ref a) [] H Q)
    (ho : EE X W o mo) (hb : attributeBase o name X.env (eval o X.env) = eval o X.env := by rfl)
    (h3 : (apos.endLine == cpos.line) = true := by rfl) :
    EE X W (.Call (.Attribute o name apos) [] [] cpos) (eMt0 g mo) :=
  peImp (pe_bm0 PySem.F.plainAttrs_list slot hty hm ho hb h3) fun σ H Q ⟨A, ρ, τ, lh, er, S, pr⟩ => ⟨A, ρ, τ, lh, er, S, PRg.thn pr fun d lh1 ρ1 H1 x s1 S1 r1 pr1 => by
    cases q : locL lh1 d with
    | none => simp only [q] at pr1; exact pr1.elim
    | some p =>
      obtain ⟨n, xs⟩ := p
      simp only [q] at pr1
      obtain ⟨a, vs, rfl, rfl, hn, h4, rs⟩ := locL_rel S1 r1 q
      refine ⟨Or.inl ⟨rfl, vs, SqL.of h4⟩, ?_⟩
      cases q3 : g xs with
      | none => simp only [q3] at pr1; exact pr1.elim
      | some p =>
        obtain ⟨ys, dv⟩ := p
        simp only [q3] at pr1
        refine hg A ρ1 H1 a vs xs ys dv Q h4 rs q3 fun v vs' z1 z2 => ?_
        obtain ⟨u, hu, mu⟩ := S1.mut (List.mem_of_getElem? hn)
        exact pr1 ρ1 _ _ (stp_set hn hu mu) (S1.set hn (OR.setSelf S1 hn z1)) (z2.stp (stp_set hn hu mu))⟩
end
end Tb

/-! Statements: stores, targets, if, while, for; comprehensions. -/
namespace Tb
open PySem PySem.Spec PyProof.Rows L2

/-! ### a new dict -/
theorem dicP_ok {P : Program} {w : World} {H : Hp} {h : Heap} {a : Addr} {xs : List DEnt} (x : DicP P w a xs h) : ObjOk P w H h a (.ext (DicP P w a xs)) := by
  refine ⟨x, ?_, fun h1 h2 ⟨o, es, ep, e1, e2⟩ k => ⟨o, es, ep, k _ e1, e2⟩⟩
  obtain ⟨o, es, ep, e1, _⟩ := x
  exact ⟨o, e1⟩
def eDict : EM := fun _ lh => .ok (.loc lh.length) (lh ++ [.dic [] []])
section
variable {X : Cx} {W : WX} {pos : Pos}
theorem ee_dict : EE X W (.Dict [] [] pos) eDict := ⟨fun pins s σ H Q I ⟨A, ρ, τ, lh, er, S, pr⟩ => by
  have hn : H s.heap.objs.size = none := I.hok.fresh (Nat.le_refl _)
  have big : sysModules < s.heap.objs.size := I.big
  have e : ρ.length = lh.length := S.len
  refine wpAny_Dict_empty ⟨.ref s.heap.objs.size, _, I.laid (a := s.heap.objs.size) (o := .ext (DicP X.prog X.w s.heap.objs.size [])) (t' := s.toks) (fun _ _ q => Heap.get?_push_of_some _ q) (Nat.le_refl _) (dicP_ok ?_), rfl, ?_⟩
  · exact ⟨_, #[], 0, Heap.get?_push_size _ rfl, ⟨rfl, rfl, rfl⟩, rfl, rfl, List.nodup_nil, beq_eq_false_iff_ne.mpr (Ne.symm (Nat.ne_of_lt big)), Nat.zero_le _⟩
  · refine pr (ρ ++ [s.heap.objs.size]) _ _ (stp_loc hn) (S.newLoc hn ⟨[], upd_same, .nil⟩) (.loc ?_)
    rw [← e]
    simp⟩
end

/-! ### x[i] = v -/
/-- the dict at a location -/
def locD (lh : LH) : D → Option (Nat × List D × List D)
  | .loc n => (match lh[n]? with
    | some (.dic ks us) => some (n, ks, us)
    | _ => none)
  | _ => none
def setG (lh : LH) (d e f : D) : Option LH := match e with
  | .int k => (match locL lh d with
    | some (n, xs) => (match ixN xs.length k with
      | some j => some (lh.set n (.lst (xs.set j f)))
      | none => none)
    | none => none)
  | .tup _ => (match locD lh d with
    | some (n, ks, us) => (match toKey 8 e with
      | some k => if ks.length < sizeLine then some (lh.set n (.dic (dPut k e f ks us).1 (dPut k e f ks us).2)) else none
      | none => none)
    | none => none)
  | _ => none
def rSetD (G : Gx) : TSet := fun o i v H Q => ∃ A ρ lh d e f, SR G A ρ H lh ∧ VR G A ρ H o d ∧ VR G A ρ H i e ∧ VR G A ρ H v f ∧ ∃ lh', setG lh d e f = some lh' ∧ ∀ H', Stp ρ H ρ H' → SR G A ρ H' lh' → Q H'
theorem length_storedH (xs : List DEnt) (k : NestedKey) (a : Addr) (v : Value) : (storedH xs k a v).length ≤ xs.length + 1 := by
  unfold storedH
  split
  · simp
  · simp
section
variable {X : Cx}
theorem set_D (hu : X.A.units + 200 < cLine) : PSet X (rSetD (gx X)) := by
  intro pins s σ H o i v ov iv u Q I ro ri rv ⟨A, ρ, lh, d, e, f, S, r1, r2, r3, lh', g, h⟩
  unfold setG at g
  split at g
  · rename_i k
    split at g
    · rename_i n xs h1
      split at g
      · rename_i j hj
        obtain ⟨a, vs, rfl, rfl, hn, ha, rs⟩ := locL_rel S r1 h1
        cases r2
        refine set_list pins s σ H _ _ v ov iv u Q I ro ri rv ⟨a, vs, k, j, rfl, rfl, ha, by rw [rs.length]; exact hj, ?_⟩
        cases g
        exact set_lst S hn (rs.setAt j r3) h
      · cases g
    · cases g
  · split at g
    · rename_i n ks us hd
      split at g
      · rename_i k hk
        split at g
        · rename_i hz
          cases g
          cases r1 with
          | @loc m a hm =>
            unfold locD at hd
            cases e0 : lh[m]? with
            | none => simp only [e0] at hd; cases hd
            | some ob =>
              simp only [e0] at hd
              cases ob with
              | dic ks' us' =>
                cases hd
                obtain ⟨b, h1, xs, h2, dr⟩ := S.obj n _ e0
                rw [hm] at h1
                cases h1
                obtain ⟨ad, rfl⟩ := tupRef r2
                obtain ⟨d1, d2, d3⟩ := dicP_of I h2 dr
                obtain rfl : ov = Value.ref a := ro
                obtain rfl : iv = Value.ref ad := ri
                have nd : (xs.map (·.1)).Nodup := d1.nodup
                refine wpAny_setItem_heap (knd := nestedKind X.prog X.w) (by show X.A.units + 1 + 8 < cLine; omega) (keyIs_rel I r2 hk) d1 (fun h' dd' hs => ?_) (hsz := d3)
                obtain ⟨mu, hmu, mm⟩ := S.mut (List.mem_of_getElem? hm)
                have st : Stp ρ H ρ (upd H a (.ext (DicP X.prog X.w a (storedH xs k ad u)))) := stp_set hm hmu mm
                obtain ⟨q, es, ep, hq, q2, q3, q4, q5, q6⟩ := dd'
                have lz : (storedH xs k ad u).length ≤ sizeLine := by
                  have a1 := length_storedH xs k ad u
                  have a2 := dr.length
                  omega
                have I' := d_write (t' := s.toks + (nestedKind X.prog X.w).draws k) I (ob := .ext (DicP X.prog X.w a (storedH xs k ad u))) (by rw [h2]; exact True.intro) hs ⟨q, hq⟩ (dicP_ok ⟨q, es, ep, hq, q2, q3, q4, q6, d2, lz⟩)
                exact ⟨_, I', h _ st (S.set hm ⟨_, upd_same, (put_rel k hk r2 rv r3 dr nd).stp st⟩)⟩
              | _ => cases hd
          | _ => cases hd
        · cases g
      · cases g
    · cases g
  · cases g
end

/-! ### targets -/
abbrev GB := LH → D → Option (List (Nat × D))
abbrev GBs := LH → List D → Option (List (Nat × D))
def gbName (i : Nat) : GB := fun _ d => some [(i, d)]
def gbNil : GBs := fun _ ds => match ds with
  | [] => some []
  | _ => none
def gbCons (g : GB) (gs : GBs) : GBs := fun lh ds => match ds with
  | d :: ds => (match g lh d with
    | some b => (match gs lh ds with
      | some bs => some (b ++ bs)
      | none => none)
    | none => none)
  | [] => none
def gbTup (gs : GBs) : GB := fun lh d => match asS lh d with
  | some ds => gs lh ds
  | none => none
def setAll {α : Type} (σ : List (Option α)) : List Nat → List α → List (Option α)
  | i :: is, w :: ws => setAll (σ.set i (some w)) is ws
  | _, _ => σ
theorem setAll_app {α : Type} : ∀ {is js : List Nat} {ws us : List α} {σ : List (Option α)}, is.length = ws.length → setAll σ (is ++ js) (ws ++ us) = setAll (setAll σ is ws) js us
  | [], _, [], _, _, _ => rfl
  | i :: is, js, w :: ws, us, σ, h => setAll_app (is := is) (ws := ws) (by simpa using h)
  | [], _, _ :: _, _, _, h => by simp at h
  | _ :: _, _, [], _, _, h => by simp at h
def gP (G : Gx) (gb : GB) : TG := fun v σ H Q => ∃ A ρ lh d bs, SR G A ρ H lh ∧ VR G A ρ H v d ∧ gb lh d = some bs ∧ ∀ ws, VRs G A ρ H ws (bs.map (·.2)) → Q (setAll σ (bs.map (·.1)) ws) H
def gPs (G : Gx) (gb : GBs) : TGs := fun vs σ H Q => ∃ A ρ lh ds bs, SR G A ρ H lh ∧ VRs G A ρ H vs ds ∧ gb lh ds = some bs ∧ ∀ ws, VRs G A ρ H ws (bs.map (·.2)) → Q (setAll σ (bs.map (·.1)) ws) H
abbrev EG (X : Cx) (tg : Expr) (gb : GB) : Prop := PG X tg (gP (gx X) gb)
abbrev EGs (X : Cx) (tg : List Expr) (n : Nat) (gb : GBs) : Prop := PGs X tg (gPs (gx X) gb) ∧ ∀ lh ds bs, gb lh ds = some bs → ds.length = n
theorem pgImp {X : Cx} {e : Expr} {t t' : TG} (h : PG X e t) (i : ∀ v σ H Q, t' v σ H Q → t v σ H Q) : PG X e t' := ⟨fun pins s σ H x v Q I r hw => h.run pins s σ H x v Q I r (i x σ H Q hw)⟩
theorem pgsImp {X : Cx} {e : List Expr} {t t' : TGs} (h : PGs X e t) (i : ∀ v σ H Q, t' v σ H Q → t v σ H Q) : PGs X e t' := ⟨fun pins s σ H x v Q I r hw => h.run pins s σ H x v Q I r (i x σ H Q hw)⟩
theorem pgOr {X : Cx} {e : Expr} {t t' : TG} (h : PG X e t) (h' : PG X e t') : PG X e (fun v σ H Q => t v σ H Q ∨ t' v σ H Q) := ⟨fun pins s σ H x v Q I r hw => hw.elim (h.run pins s σ H x v Q I r) (h'.run pins s σ H x v Q I r)⟩
section
variable {X : Cx} {e : Expr} {es : List Expr} {g : GB} {gs : GBs} {pos : Pos}
theorem eg_name (i : Nat) {x : Str} (hN : X.N.Nodup) (hi : X.N[i]? = some x := by rfl) (hx : Loc X.env.scope x := by first | exact Or.inl rfl | exact Or.inr rfl) (hf : X.fn x = true ∨ X.env.scope.names.lookup x = some .local := by first | exact .inl rfl | exact .inr rfl) : EG X (.Name x pos) (gbName i) :=
  pgImp (pg_name hN hi hx hf) fun v σ H Q ⟨A, ρ, lh, d, bs, S, r, e, k⟩ => by
    cases e
    exact k [v] (.cons r .nil)
theorem egs_nil : EGs X [] 0 gbNil := ⟨pgsImp pgs_nil fun v σ H Q ⟨A, ρ, lh, d, bs, S, r, e, k⟩ => (by
  cases r with
  | nil => cases e; exact ⟨rfl, k [] .nil⟩
  | cons _ _ => cases e), fun lh ds bs h => by
  cases ds with
  | nil => rfl
  | cons _ _ => cases h⟩
theorem egs_cons {n : Nat} (h1 : EG X e g) (h2 : EGs X es n gs) (hs : (assignEach (e :: es) X.env).map (·.2) = assign e X.env :: (assignEach es X.env).map (·.2) := by rfl) : EGs X (e :: es) (n + 1) (gbCons g gs) :=
  ⟨pgsImp (pgs_cons h1 h2.1 hs) fun v σ H Q ⟨A, ρ, lh, d, bs, S, r, e, k⟩ => (by
    cases r with
    | nil => cases e
    | @cons v d vs ds r1 r2 =>
      unfold gbCons at e
      simp only at e
      split at e
      · rename_i b h1
        split at e
        · rename_i bs' h2
          cases e
          refine ⟨v, vs, rfl, A, ρ, lh, d, b, S, r1, h1, fun ws hw => ⟨A, ρ, lh, ds, bs', S, r2, h2, fun us hu => ?_⟩⟩
          have := k (ws ++ us) (by rw [List.map_append]; exact hw.append hu)
          rw [List.map_append, setAll_app (by rw [List.length_map]; have z := hw.length; rw [List.length_map] at z; exact z.symm)] at this
          exact this
        · cases e
      · cases e), fun lh ds bs h => by
    cases ds with
    | nil => cases h
    | cons d ds =>
      unfold gbCons at h
      simp only at h
      split at h
      · split at h
        · rename_i bs' q
          rw [List.length_cons, h2.2 _ _ _ q]
        · cases h
      · cases h⟩
theorem eg_tup {k n : Nat} (hc : X.calm = true) (h : EGs X es n gs) (hn : (assignEach es X.env).length = n := by rfl) (hst : (assignEach es X.env).findIdx? (·.1) = none := by rfl) : EG X (.Tuple es k pos) (gbTup gs) :=
  pgImp (pgOr (pg_tup hc h.1 hn hst) (pg_lst hc h.1 hn hst)) fun v σ H Q ⟨A, ρ, lh, d, bs, S, r, e, k⟩ => by
    unfold gbTup at e
    split at e
    · rename_i ds h1
      obtain ⟨a, vs, rfl, hq, rs⟩ := asS_rel S r h1
      have z := h.2 _ _ _ e
      rcases hq with hq | hq
      · exact .inr ⟨a, vs, rfl, hq, by rw [rs.length]; exact z, A, ρ, lh, ds, bs, S, rs, e, k⟩
      · exact .inl ⟨a, vs, rfl, hq, by rw [rs.length]; exact z, A, ρ, lh, ds, bs, S, rs, e, k⟩
    · cases e
end

/-! ### statements -/
def sNil : SM := fun τ lh => .nx τ lh
def SRes.seq (r : SRes) (f : Tau → LH → SRes) : SRes := match r with
  | .nx τ lh => f τ lh
  | .rt d lh => .rt d lh
  | .bk τ lh => .bk τ lh
  | .exc c τ lh => .exc c τ lh
  | .stuck => .stuck
def sSeq (a b : SM) : SM := fun τ lh => (a τ lh).seq b
def Res.toS {α : Type} (r : Res α) (τ : Tau) (k : α → LH → SRes) : SRes := match r with
  | .ok d lh => k d lh
  | .exc c lh => .exc c τ lh
  | .stuck => .stuck
def sDrop (m : EM) : SM := fun τ lh => (m τ lh).toS τ fun _ lh => .nx τ lh
def sRet (m : EM) : SM := fun τ lh => (m τ lh).toS τ fun d lh => .rt d lh
def sRetN : SM := fun _ lh => .rt .non lh
def sBrk : SM := fun τ lh => .bk τ lh
def sIf (c : TM) (a b : SM) : SM := fun τ lh => (c τ lh).toS τ fun x lh => if x = true then a τ lh else b τ lh
def sSet (i : Nat) (m : EM) : SM := fun τ lh => (m τ lh).toS τ fun d lh => .nx (τ.set i (some d)) lh
def sAsg (g : GB) (m : EM) : SM := fun τ lh => (m τ lh).toS τ fun d lh => match g lh d with
  | some bs => .nx (setAll τ (bs.map (·.1)) (bs.map (·.2))) lh
  | none => .stuck
def sPar (is : List Nat) (m : AM) : SM := fun τ lh => (m τ lh).toS τ fun ds lh => if ds.length = is.length then .nx (setAll τ is ds) lh else .stuck
/-- x[i] = e: the value first -/
def sPut (m mo mi : EM) : SM := fun τ lh => (m τ lh).toS τ fun f lh => match mo τ lh with
  | .ok d lh => (match mi τ lh with
    | .ok e lh => (match setG lh d e f with
      | some lh => .nx τ lh
      | none => .stuck)
    | _ => .stuck)
  | _ => .stuck
def sAug (i : Nat) (g : LH → D → D → Ro) (m : EM) : SM := fun τ lh => match τ[i]? with
  | some (some d) => (m τ lh).toS τ fun e lh => (match g lh d e with
    | .v v => .nx (τ.set i (some v)) lh
    | _ => .stuck)
  | _ => .stuck
section
variable {G : Gx} {W : WX} {A : Addr → Prop} {ρ ρ' : List Addr} {H H' : Hp} {lh : LH} {σ : L2.St} {τ : Tau} {E : Ends}
theorem ER.setAll (e : ER G A ρ H σ τ) : ∀ {is : List Nat} {vs : List V} {ds : List D}, VRs G A ρ H vs ds → ER G A ρ H (Tb.setAll σ is vs) (Tb.setAll τ is ds) := by
  intro is
  induction is generalizing σ τ with
  | nil => intro vs ds _; unfold Tb.setAll; exact e
  | cons i is ih =>
    intro vs ds r
    cases r with
    | nil => unfold Tb.setAll; exact e
    | cons h r => exact ih (e.set i h) r
/-- a statement that begins with an expression -/
theorem PSR.thn {α β : Type} {rel : List Addr → Hp → β → α → Prop} {r : Res α} {k : α → LH → SRes} {R : β → Hp → Prop} (er : ER G A ρ H σ τ) (h : PSR G W A ρ H (r.toS τ k) E)
    (c : ∀ a lh' ρ' H' b, Stp ρ H ρ' H' → SR G A ρ' H' lh' → rel ρ' H' b a → PSR G W A ρ' H' (k a lh') E → R b H') : PRg G A ρ H rel r (wAt G W σ) R := by
  cases r with
  | ok a lh' => exact fun ρ' H' b s S q => c a lh' ρ' H' b s S q (PSR.stp (r := k a lh') s h)
  | exc x lh' => exact fun ρ' H' s S => h ρ' H' σ s S (er.stp s)
  | stuck => exact h.elim
end
section
variable {X : Cx} {W : WX} {a b c e o i' : Expr} {m mo mi : EM} {t : TM} {s1 s2 : SM} {st : Stmt} {rest sts sts2 : List Stmt} {pos pos' : Pos} {g : GB}
theorem ess_nil : ESs X W [] sNil := pssImp pss_nil fun E σ H ⟨A, ρ, τ, lh, er, S, pr⟩ => pr ρ H σ (Stp.refl _ _) S er
theorem ess_cons (h1 : ES X W st s1) (h2 : ESs X W rest s2) : ESs X W (st :: rest) (sSeq s1 s2) :=
  pssImp (pss_cons h1 h2) fun E σ H ⟨A, ρ, τ, lh, er, S, pr⟩ => ⟨A, ρ, τ, lh, er, S, by
    unfold sSeq at pr
    cases q : s1 τ lh with
    | nx τ' lh' =>
      rw [q] at pr
      exact fun ρ' H' σ' s S' e' => ⟨A, ρ', τ', lh', e', S', PSR.stp (r := s2 τ' lh') s pr⟩
    | rt d lh' => rw [q] at pr; exact pr
    | bk τ' lh' => rw [q] at pr; exact pr
    | exc c τ' lh' => rw [q] at pr; exact pr
    | stuck => rw [q] at pr; exact pr.elim⟩
theorem ess_one (h1 : ES X W st s1) : ESs X W [st] s1 := pss_one h1
theorem es_pass : ES X W (.Pass pos) sNil := psImp ps_pass fun E σ H ⟨A, ρ, τ, lh, er, S, pr⟩ => pr ρ H σ (Stp.refl _ _) S er
theorem es_break : ES X W (.Break pos) sBrk := psImp ps_break fun E σ H ⟨A, ρ, τ, lh, er, S, pr⟩ => pr ρ H σ (Stp.refl _ _) S er
theorem es_expr (h : EE X W e m) (hs : swapsWith e none pos.line X.env = pure false := by rfl) : ES X W (.Expr e pos) (sDrop m) :=
  psImp (ps_expr h hs) fun E σ H ⟨A, ρ, τ, lh, er, S, pr⟩ => ⟨A, ρ, τ, lh, er, S, PSR.thn er pr fun d lh1 ρ1 H1 x s1 S1 r1 pr1 => pr1 ρ1 H1 σ (Stp.refl _ _) S1 (er.stp s1)⟩
theorem es_ret (h : EE X W e m) : ES X W (.Return (some e) pos) (sRet m) :=
  psImp (ps_ret h) fun E σ H ⟨A, ρ, τ, lh, er, S, pr⟩ => ⟨A, ρ, τ, lh, er, S, PSR.thn er pr fun d lh1 ρ1 H1 x s1 S1 r1 pr1 => pr1 ρ1 H1 x (Stp.refl _ _) S1 r1⟩
theorem es_if (hc : ET X W c t) (ha : ESs X W sts s1) (hb : ESs X W sts2 s2) : ES X W (.If c sts sts2 pos) (sIf t s1 s2) :=
  psImp (ps_if hc ha hb) fun E σ H ⟨A, ρ, τ, lh, er, S, pr⟩ => ⟨A, ρ, τ, lh, er, S, PSR.thn er pr fun d lh1 ρ1 H1 x s1 S1 r1 pr1 => by
    subst r1
    cases x with
    | true => exact iteT ⟨A, ρ1, τ, lh1, er.stp s1, S1, pr1⟩
    | false => exact iteF ⟨A, ρ1, τ, lh1, er.stp s1, S1, pr1⟩⟩
theorem es_set (i : Nat) {x : Str} (hN : X.N.Nodup) (h : EE X W e m) (hi : X.N[i]? = some x := by rfl) (hx : Loc X.env.scope x := by first | exact Or.inl rfl | exact Or.inr rfl) (hs : swapsWith e (some (.Name x pos')) pos.line X.env = pure false := by rfl)
    (hf : X.fn x = true ∨ X.env.scope.names.lookup x = some .local := by first | exact .inl rfl | exact .inr rfl) : ES X W (.Assign [.Name x pos'] e pos) (sSet i m) :=
  psImp (ps_set hN hi hx h hs hf) fun E σ H ⟨A, ρ, τ, lh, er, S, pr⟩ => ⟨A, ρ, τ, lh, er, S, PSR.thn er pr fun d lh1 ρ1 H1 x s1 S1 r1 pr1 => pr1 ρ1 H1 _ (Stp.refl _ _) S1 ((er.stp s1).set i r1)⟩
/-- as es_set, the store told at once -/
theorem es_setT (i : Nat) {te : TE} (hp : PS X (.Assign [a] e pos) (tAsg te (gName i))) (h : ∀ σ H Q, tE (gx X) W m σ H Q → te σ H Q) : ES X W (.Assign [a] e pos) (sSet i m) :=
  psImp hp fun E σ H ⟨A, ρ, τ, lh, er, S, pr⟩ => h _ _ _ ⟨A, ρ, τ, lh, er, S, PSR.thn er pr fun d lh1 ρ1 H1 x s1 S1 r1 pr1 => pr1 ρ1 H1 _ (Stp.refl _ _) S1 ((er.stp s1).set i r1)⟩
theorem es_asg (h : EE X W e m) (hg : EG X a g) (hs : swapsWithSole [a] e pos.line X.env = pure false := by rfl) (hw : swappedStores [a] e X.env = pure none := by rfl) (h3 : (assignEach [a] X.env).map (·.2) = [assign a X.env] := by rfl) : ES X W (.Assign [a] e pos) (sAsg g m) :=
  psImp (ps_asg h hg hs hw h3) fun E σ H ⟨A, ρ, τ, lh, er, S, pr⟩ => ⟨A, ρ, τ, lh, er, S, PSR.thn er pr fun d lh1 ρ1 H1 x s1 S1 r1 pr1 => by
    cases q : g lh1 d with
    | none => simp only [q] at pr1; exact pr1.elim
    | some bs =>
      simp only [q] at pr1
      exact ⟨A, ρ1, lh1, d, bs, S1, r1, q, fun ws hw => pr1 ρ1 H1 _ (Stp.refl _ _) S1 ((er.stp s1).setAll hw)⟩⟩
theorem es_par {i j : Nat} {x y : Str} {ma : AM} {px py pt : Pos} {kt k2 : Nat} {pt2 : Pos} (hc : X.calm = true) (hN : X.N.Nodup) (h : EA X W [a, b] ma) (hw : swappedStores [.Tuple [.Name x px, .Name y py] kt pt] (.Tuple [a, b] k2 pt2) X.env = pure (some [x, y]) := by rfl)
    (hi : X.N[i]? = some x := by rfl) (hj : X.N[j]? = some y := by rfl) (hij : i ≠ j := by decide) (hx : X.env.scope.names.lookup x = some .local := by rfl) (hy : X.env.scope.names.lookup y = some .local := by rfl)
    (hs : swapsWithSole [.Tuple [.Name x px, .Name y py] kt pt] (.Tuple [a, b] k2 pt2) pos.line X.env = pure false := by rfl) : ES X W (.Assign [.Tuple [.Name x px, .Name y py] kt pt] (.Tuple [a, b] k2 pt2) pos) (sPar [i, j] ma) :=
  psImp (ps_par hc hN hi hj hij hx hy h hw hs) fun E σ H ⟨A, ρ, τ, lh, er, S, pr⟩ => ⟨A, ρ, τ, lh, er, S, PSR.thn er pr fun ds lh1 ρ1 H1 x s1 S1 r1 pr1 => by
    cases r1 with
    | nil => exact pr1.elim
    | cons r1 r2 =>
      cases r2 with
      | nil => exact pr1.elim
      | cons r2 r3 =>
        cases r3 with
        | nil => exact ⟨_, _, rfl, pr1 ρ1 H1 _ (Stp.refl _ _) S1 (((er.stp s1).set i r1).set j r2)⟩
        | cons _ _ =>
          rw [if_neg (by simp)] at pr1
          exact pr1.elim⟩
theorem es_par3 {i j l : Nat} {x y z : Str} {ma : AM} {px py pz pt : Pos} {kt k2 : Nat} {pt2 : Pos} (hc : X.calm = true) (hN : X.N.Nodup) (h : EA X W [a, b, c] ma) (hw : swappedStores [.Tuple [.Name x px, .Name y py, .Name z pz] kt pt] (.Tuple [a, b, c] k2 pt2) X.env = pure (some [x, y, z]) := by rfl)
    (hi : X.N[i]? = some x := by rfl) (hj : X.N[j]? = some y := by rfl) (hl : X.N[l]? = some z := by rfl) (hij : i ≠ j := by decide) (hil : i ≠ l := by decide) (hjl : j ≠ l := by decide) (hx : X.env.scope.names.lookup x = some .local := by rfl) (hy : X.env.scope.names.lookup y = some .local := by rfl) (hz : X.env.scope.names.lookup z = some .local := by rfl)
    (hs : swapsWithSole [.Tuple [.Name x px, .Name y py, .Name z pz] kt pt] (.Tuple [a, b, c] k2 pt2) pos.line X.env = pure false := by rfl) : ES X W (.Assign [.Tuple [.Name x px, .Name y py, .Name z pz] kt pt] (.Tuple [a, b, c] k2 pt2) pos) (sPar [i, j, l] ma) :=
  psImp (ps_par3 hc hN hi hj hl hij hil hjl hx hy hz h hw hs) fun E σ H ⟨A, ρ, τ, lh, er, S, pr⟩ => ⟨A, ρ, τ, lh, er, S, PSR.thn er pr fun ds lh1 ρ1 H1 x s1 S1 r1 pr1 => by
    cases r1 with
    | nil => exact pr1.elim
    | cons r1 r2 =>
      cases r2 with
      | nil => exact pr1.elim
      | cons r2 r3 =>
        cases r3 with
        | nil => exact pr1.elim
        | cons r3 r4 =>
          cases r4 with
          | nil => exact ⟨_, _, _, rfl, pr1 ρ1 H1 _ (Stp.refl _ _) S1 ((((er.stp s1).set i r1).set j r2).set l r3)⟩
          | cons _ _ =>
            rw [if_neg (by simp)] at pr1
            exact pr1.elim⟩
theorem es_put {ps : Pos} (hu : X.A.units + 200 < cLine) (h : EE X W e m) (ho : EE X W o mo) (hi : EE X W i' mi) (hs : swapsWithSole [.Subscript o i' ps] e pos.line X.env = pure false := by rfl) (hw : swappedStores [.Subscript o i' ps] e X.env = pure none := by rfl) (h3 : (assignEach [.Subscript o i' ps] X.env).map (·.2) = [assign (.Subscript o i' ps) X.env] := by rfl)
    (h4 : ∀ (v : Value), assign (.Subscript o i' ps) X.env v = (do
      let ov ← holding [v] (eval o X.env)
      let iv ← holding [v, ov] (eval i' X.env)
      standAt ps
      holding [v, ov, iv] (setItem ov iv v)
      release [v, ov, iv] []) := by intro _; rfl) : ES X W (.Assign [.Subscript o i' ps] e pos) (sPut m mo mi) :=
  psImp (ps_asg h (pg_sub ho hi (set_D hu) h4) hs hw h3) fun E σ H ⟨A, ρ, τ, lh, er, S, pr⟩ => ⟨A, ρ, τ, lh, er, S, PSR.thn er pr fun f lh1 ρ1 H1 x s1 S1 r1 pr1 => ⟨A, ρ1, τ, lh1, er.stp s1, S1, by
    cases q : mo τ lh1 with
    | ok d lh2 =>
      simp only [q] at pr1
      intro ρ2 H2 y s2 S2 r2
      refine ⟨A, ρ2, τ, lh2, (er.stp s1).stp s2, S2, ?_⟩
      cases q2 : mi τ lh2 with
      | ok e' lh3 =>
        simp only [q2] at pr1
        intro ρ3 H3 z s3 S3 r3
        cases q3 : setG lh3 d e' f with
        | none => simp only [q3] at pr1; exact pr1.elim
        | some lh4 =>
          simp only [q3] at pr1
          exact ⟨A, ρ3, lh3, d, e', f, S3, r2.stp s3, r3, (r1.stp s2).stp s3, lh4, q3, fun H4 s4 S4 => pr1 ρ3 H4 σ ((s2.trans s3).trans s4) S4 ((((er.stp s1).stp s2).stp s3).stp s4)⟩
      | exc _ _ => simp only [q2] at pr1; exact pr1.elim
      | stuck => simp only [q2] at pr1; exact pr1.elim
    | exc _ _ => simp only [q] at pr1; exact pr1.elim
    | stuck => simp only [q] at pr1; exact pr1.elim⟩⟩
theorem es_augAdd (i : Nat) {x : Str} (hN : X.N.Nodup) (h : EE X W e m) (hi : X.N[i]? = some x := by rfl) (hx : Loc X.env.scope x := by first | exact Or.inl rfl | exact Or.inr rfl)
    (hf : X.fn x = true ∨ X.env.scope.names.lookup x = some .local := by first | exact .inl rfl | exact .inr rfl) : ES X W (.AugAssign (.Name x pos') .Add e pos) (sAug i (fun _ d e => match d, e with
      | .int a, .int b => .v (.int (a + b))
      | _, _ => .no) m) :=
  psImp (ps_aug hN hi hx h ip_add hf) fun E σ H ⟨A, ρ, τ, lh, er, S, pr⟩ => by
    unfold sAug at pr
    cases q : τ[i]? with
    | none => simp only [q] at pr; exact pr.elim
    | some od =>
      cases od with
      | none => simp only [q] at pr; exact pr.elim
      | some d =>
        simp only [q] at pr
        obtain ⟨v, h1, h2⟩ := er.at_ i d q
        refine ⟨v, h1, A, ρ, τ, lh, er, S, PSR.thn er pr fun e' lh1 ρ1 H1 y s1 S1 r1 pr1 => ?_⟩
        cases d with
        | int a =>
          cases e' with
          | int b =>
            cases h2
            cases r1
            exact ⟨a, b, rfl, rfl, pr1 ρ1 H1 _ (Stp.refl _ _) S1 ((er.stp s1).set i (.int _))⟩
          | _ => exact pr1.elim
        | _ => exact pr1.elim
theorem es_augSub (i : Nat) {x : Str} (hN : X.N.Nodup) (h : EE X W e m) (hi : X.N[i]? = some x := by rfl) (hx : Loc X.env.scope x := by first | exact Or.inl rfl | exact Or.inr rfl)
    (hf : X.fn x = true ∨ X.env.scope.names.lookup x = some .local := by first | exact .inl rfl | exact .inr rfl) : ES X W (.AugAssign (.Name x pos') .Sub e pos) (sAug i (fun _ d e => match d, e with
      | .int a, .int b => .v (.int (a - b))
      | _, _ => .no) m) :=
  psImp (ps_aug hN hi hx h ip_sub hf) fun E σ H ⟨A, ρ, τ, lh, er, S, pr⟩ => by
    unfold sAug at pr
    cases q : τ[i]? with
    | none => simp only [q] at pr; exact pr.elim
    | some od =>
      cases od with
      | none => simp only [q] at pr; exact pr.elim
      | some d =>
        simp only [q] at pr
        obtain ⟨v, h1, h2⟩ := er.at_ i d q
        refine ⟨v, h1, A, ρ, τ, lh, er, S, PSR.thn er pr fun e' lh1 ρ1 H1 y s1 S1 r1 pr1 => ?_⟩
        cases d with
        | int a =>
          cases e' with
          | int b =>
            cases h2
            cases r1
            exact ⟨a, b, rfl, rfl, pr1 ρ1 H1 _ (Stp.refl _ _) S1 ((er.stp s1).set i (.int _))⟩
          | _ => exact pr1.elim
        | _ => exact pr1.elim
end
end Tb

/-! while, what is walked, for, comprehensions. -/
namespace Tb
open PySem PySem.Spec PyProof.Rows L2

def sWhile : Nat → TM → SM → SM
  | 0, _, _ => fun _ _ => .stuck
  | n + 1, c, b => fun τ lh => (c τ lh).toS τ fun x lh => if x = true then (match b τ lh with
    | .nx τ lh => sWhile n c b τ lh
    | .bk τ lh => .nx τ lh
    | .rt d lh => .rt d lh
    | .exc c τ lh => .exc c τ lh
    | .stuck => .stuck) else .nx τ lh
section
variable {X : Cx} {W : WX} {c : Expr} {t : TM} {b : SM} {body : List Stmt} {pos : Pos}
theorem es_while (n : Nat) (hp : PassesOwn (model X.prog X.w) X.A X.env X.xe) (hc : ET X W c t) (hb : ESs X W body b) : ES X W (.While c body [] pos) (sWhile n t b) :=
  psImp (ps_while hp hc hb) fun E σ H ⟨A, ρ, τ, lh, er, S, pr⟩ => by
    refine ⟨fun m σ H => ∃ A ρ τ lh, ER (gx X) A ρ H σ τ ∧ SR (gx X) A ρ H lh ∧ PSR (gx X) W A ρ H (sWhile m t b τ lh) E, ⟨n, A, ρ, τ, lh, er, S, pr⟩, ?_⟩
    rintro m σ H ⟨A, ρ, τ, lh, er, S, pr⟩
    cases m with
    | zero => exact pr.elim
    | succ m =>
      refine ⟨A, ρ, τ, lh, er, S, PSR.thn er pr fun x lh1 ρ1 H1 x' s1 S1 r1 pr1 => ?_⟩
      subst r1
      cases x' with
      | true =>
        refine iteT ⟨fun σ' H' => ∃ A ρ τ lh, ER (gx X) A ρ H' σ' τ ∧ SR (gx X) A ρ H' lh ∧ PSR (gx X) W A ρ H' (sWhile m t b τ lh) E, fun σ' H' h => ⟨m, Nat.lt_succ_self _, h⟩, A, ρ1, τ, lh1, er.stp s1, S1, ?_⟩
        rw [if_pos rfl] at pr1
        cases q : b τ lh1 with
        | nx τ' lh' => simp only [q] at pr1; exact fun ρ2 H2 σ2 s2 S2 e2 => ⟨A, ρ2, τ', lh', e2, S2, PSR.stp s2 pr1⟩
        | bk τ' lh' => simp only [q] at pr1; exact pr1
        | rt d lh' => simp only [q] at pr1; exact pr1
        | exc c τ' lh' => simp only [q] at pr1; exact pr1
        | stuck => simp only [q] at pr1; exact pr1.elim
      | false =>
        rw [if_neg (by simp)] at pr1
        exact iteF (pr1 ρ1 H1 σ (Stp.refl _ _) S1 (er.stp s1))
end

/-! ### other addresses barred, more locations -/
structure Bar (A : Addr → Prop) (ρ : List Addr) (B : Addr → Prop) (ρ' : List Addr) (H : Hp) : Prop where
  out : ∀ a o, H a = some o → ¬ A a → a ∉ ρ → ¬ B a ∧ a ∉ ρ'
  at_ : ∀ (n : Nat) (a : Addr), ρ[n]? = some a → ρ'[n]? = some a
theorem Bar.of {A B : Addr → Prop} {ρ : List Addr} {H : Hp} (h : ∀ a o, H a = some o → B a → A a) : Bar A ρ B ρ H := ⟨fun a o e n m => ⟨fun z => n (h a o e z), m⟩, fun _ _ e => e⟩
section
variable {G : Gx} {A B : Addr → Prop} {ρ ρ' : List Addr} {H : Hp} {lh : LH}
theorem lstAt_bar {a : Addr} {vs : List V} (h : Bar A ρ B ρ' H) (q : LstAt G.K A ρ H a vs) : LstAt G.K B ρ' H a vs := by
  rcases q with ⟨q1, q2, q3⟩ | q | q
  · exact .inl ⟨q1, h.out _ _ q1 q2 q3⟩
  · exact .inr (.inl q)
  · exact .inr (.inr q)
mutual
theorem VR.bar (h : Bar A ρ B ρ' H) : ∀ {v : V} {d : D}, VR G A ρ H v d → VR G B ρ' H v d
  | _, _, .non => .non
  | _, _, .bl b => .bl b
  | _, _, .int b => .int b
  | _, _, .str b => .str b
  | _, _, .tup q r => .tup q (VRs.bar h r)
  | _, _, .lst q h1 h2 r => .lst q (h.out _ _ q h1 h2).1 (h.out _ _ q h1 h2).2 (VRs.bar h r)
  | _, _, .scr q r => .scr (lstAt_bar h q) (VRs.bar h r)
  | _, _, .dic q h1 h2 r => .dic q (h.out _ _ q h1 h2).1 (h.out _ _ q h1 h2).2 (DR.bar h r)
  | _, _, .loc q => .loc (h.at_ _ _ q)
theorem VRs.bar (h : Bar A ρ B ρ' H) : ∀ {vs : List V} {ds : List D}, VRs G A ρ H vs ds → VRs G B ρ' H vs ds
  | _, _, .nil => .nil
  | _, _, .cons q r => .cons (VR.bar h q) (VRs.bar h r)
theorem DR.bar (h : Bar A ρ B ρ' H) : ∀ {xs : List DEnt} {ks us : List D}, DR G A ρ H xs ks us → DR G B ρ' H xs ks us
  | _, _, _, .nil => .nil
  | _, _, _, .cons e q r q2 t => .cons e (VR.bar h q) r (VR.bar h q2) (DR.bar h t)
end
theorem FR.bar (h : Bar A ρ B ρ' H) : ∀ {gs : List (Str × V)} {fs : List (Str × D)}, FR G A ρ H gs fs → FR G B ρ' H gs fs
  | _, _, .nil => .nil
  | _, _, .cons q r => .cons (q.bar h) (FR.bar h r)
theorem OR.bar (h : Bar A ρ B ρ' H) {a : Addr} {o : LO} (q : OR G A ρ H a o) : OR G B ρ' H a o := by
  cases o with
  | lst ds => obtain ⟨vs, h1, h2⟩ := q; exact ⟨vs, h1, h2.bar h⟩
  | dic ks us => obtain ⟨xs, h1, h2⟩ := q; exact ⟨xs, h1, h2.bar h⟩
  | ins c fs => obtain ⟨dx, gs, h1, h2⟩ := q; exact ⟨dx, gs, h1, h2.bar h⟩
theorem SR.bar (h : Bar A ρ B ρ H) (hB : ∀ a, B a → ∃ o, H a = some o) (S : SR G A ρ H lh) : SR G B ρ H lh := ⟨S.len, S.nd, hB, fun n o e => by
  obtain ⟨a, h1, h2⟩ := S.obj n o e
  exact ⟨a, h1, h2.bar h⟩⟩
theorem ER.bar (h : Bar A ρ B ρ' H) {σ : L2.St} {τ : Tau} (e : ER G A ρ H σ τ) : ER G B ρ' H σ τ := ⟨e.len, fun i d q => by
  obtain ⟨v, h1, h2⟩ := e.at_ i d q
  exact ⟨v, h1, h2.bar h⟩⟩
end

/-! ### what is walked -/
inductive Wk where
  | st (ds : List D) | dy (n : Nat) | en (n : Nat)
abbrev IM := Tau → LH → Res Wk
def numb (i : Nat) : List D → List D
  | d :: ds => .tup [.int (i : Nat), d] :: numb (i + 1) ds
  | [] => []
theorem numb_get : ∀ (ds : List D) (k i : Nat), (numb k ds)[i]? = (ds[i]?).map fun d => D.tup [.int ((k + i : Nat) : Int), d]
  | [], _, _ => rfl
  | d :: ds, k, 0 => by simp [numb]
  | d :: ds, k, i + 1 => by
    have := numb_get ds (k + 1) i
    simp only [numb, List.getElem?_cons_succ]
    rw [this]
    have e : k + 1 + i = k + (i + 1) := by omega
    rw [e]
theorem numb_length : ∀ (ds : List D) (k : Nat), (numb k ds).length = ds.length
  | [], _ => rfl
  | d :: ds, k => by simp [numb, numb_length ds]
def Wk.gt : Wk → LH → Nat → Option (Option D)
  | .st ds, _, i => some ds[i]?
  | .dy n, lh, i => (lstAt lh n).map fun xs => xs[i]?
  | .en n, lh, i => (lstAt lh n).map fun xs => (xs[i]?).map fun d => D.tup [.int ((i : Nat) : Int), d]
def ItOk (G : Gx) (A : Addr → Prop) (ρ : List Addr) (H : Hp) (J : It) (it : Wk) : Prop := ∀ B ρ2 H2 lh2 i, Bar A ρ B ρ H → Stp ρ H ρ2 H2 → SR G B ρ2 H2 lh2 →
  (∀ d, it.gt lh2 i = some (some d) → J.go i H2 ∧ ∀ x H3, J.yld i H2 x H3 → Stp ρ2 H2 ρ2 H3 ∧ SR G B ρ2 H3 lh2 ∧ VR G B ρ2 H3 x d) ∧ (it.gt lh2 i = some none → J.stop i H2)
def tI (G : Gx) (W : WX) (m : IM) : TI := fun σ H R => ∃ A ρ τ lh, ER G A ρ H σ τ ∧ SR G A ρ H lh ∧ PRg G A ρ H (fun ρ' H' J it => ItOk G A ρ' H' J it) (m τ lh) (wAt G W σ) R
abbrev EI (X : Cx) (W : WX) (tg iter : Expr) (m : IM) : Prop := PI X tg iter (tI (gx X) W m)
theorem piImp {X : Cx} {tg e : Expr} {t t' : TI} (h : PI X tg e t) (i : ∀ σ H Q, t' σ H Q → t σ H Q) : PI X tg e t' := ⟨fun pins s σ H Q I hw => h.run pins s σ H Q I (i σ H Q hw)⟩
theorem piOr {X : Cx} {tg e : Expr} {t t' : TI} (h : PI X tg e t) (h' : PI X tg e t') : PI X tg e (fun σ H R => t σ H R ∨ t' σ H R) := ⟨fun pins s σ H Q I hw => hw.elim (h.run pins s σ H Q I) (h'.run pins s σ H Q I)⟩
section
variable {G : Gx} {A : Addr → Prop} {ρ ρ2 : List Addr} {H H2 : Hp} {lh lh2 : LH} {a : Addr} {vs : List V} {ds : List D}
theorem sqL_stp {K : PySem.W.Frag} (s : Stp ρ H ρ2 H2) (h : LstAt K A ρ H a vs) : SqL K H2 a vs := (lstAt_stp s h).sq
theorem seq_unique {K : PySem.W.Frag} {ws : List V} (h : SqL K H a vs) (h' : SqL K H a ws) (e : H a = some (.lst vs)) : SqL K H a ws := h'
end
/-- a list that stands still, walked -/
theorem itOk_list {G : Gx} {A : Addr → Prop} {ρ : List Addr} {H : Hp} {a : Addr} {vs : List V} {ds : List D} (q : LstAt G.K A ρ H a vs) (r : VRs G A ρ H vs ds) : ItOk G A ρ H (Itl G.K a) (.st ds) := fun B ρ2 H2 lh2 i hB s S => by
  have q2 := (lstAt_stp s (lstAt_bar hB q)).sq
  have r2 := (r.bar hB).stp s
  refine ⟨fun d hd => ?_, fun hd => ?_⟩
  · have hd' : ds[i]? = some d := by simpa [Wk.gt] using hd
    obtain ⟨v, h1, h2⟩ := r2.get hd'
    refine ⟨⟨vs, v, q2, h1⟩, fun x H3 hy => ?_⟩
    obtain ⟨e, hx⟩ := hy
    subst e
    have := hx vs q2
    rw [h1] at this
    cases this
    exact ⟨Stp.refl _ _, S, h2⟩
  · have hd' : ds.length ≤ i := by simpa [Wk.gt] using hd
    exact ⟨vs, q2, by rw [r2.length]; exact hd'⟩
theorem itOk_tup {G : Gx} {A : Addr → Prop} {ρ : List Addr} {H : Hp} {a : Addr} {vs : List V} {ds : List D} (q : SqT G.K H a vs) (r : VRs G A ρ H vs ds) : ItOk G A ρ H (Itt G.K a) (.st ds) := fun B ρ2 H2 lh2 i hB s S => by
  have q2 := sqT_stp s q
  have r2 := (r.bar hB).stp s
  refine ⟨fun d hd => ?_, fun hd => ?_⟩
  · have hd' : ds[i]? = some d := by simpa [Wk.gt] using hd
    obtain ⟨v, h1, h2⟩ := r2.get hd'
    refine ⟨⟨vs, v, q2, h1⟩, fun x H3 hy => ?_⟩
    obtain ⟨e, hx⟩ := hy
    subst e
    have := hx vs q2
    rw [h1] at this
    cases this
    exact ⟨Stp.refl _ _, S, h2⟩
  · have hd' : ds.length ≤ i := by simpa [Wk.gt] using hd
    exact ⟨vs, q2, by rw [r2.length]; exact hd'⟩
theorem itOk_loc {G : Gx} {A : Addr → Prop} {ρ : List Addr} {H : Hp} {a : Addr} {n : Nat} (q : ρ[n]? = some a) : ItOk G A ρ H (Itl G.K a) (.dy n) := fun B ρ2 H2 lh2 i hB s S => by
  have q2 := s.get q
  have key : ∀ xs, lstAt lh2 n = some xs → ∃ vs, H2 a = some (.lst vs) ∧ VRs G B ρ2 H2 vs xs := fun xs hx => by
    obtain ⟨b, vs, h1, h2, h3⟩ := S.lst hx
    rw [q2] at h1
    cases h1
    exact ⟨vs, h2, h3⟩
  refine ⟨fun d hd => ?_, fun hd => ?_⟩
  · cases e : lstAt lh2 n with
    | none => simp [Wk.gt, e] at hd
    | some xs =>
      have hd' : xs[i]? = some d := by simpa [Wk.gt, e] using hd
      obtain ⟨vs, h2, h3⟩ := key xs e
      obtain ⟨v, k1, k2⟩ := h3.get hd'
      refine ⟨⟨vs, v, SqL.of h2, k1⟩, fun x H3 hy => ?_⟩
      obtain ⟨e3, hx⟩ := hy
      subst e3
      have := hx vs (SqL.of h2)
      rw [k1] at this
      cases this
      exact ⟨Stp.refl _ _, S, k2⟩
  · cases e : lstAt lh2 n with
    | none => simp [Wk.gt, e] at hd
    | some xs =>
      have hd' : xs.length ≤ i := by simpa [Wk.gt, e] using hd
      obtain ⟨vs, h2, h3⟩ := key xs e
      exact ⟨vs, SqL.of h2, by rw [h3.length]; exact hd'⟩
/-- for x in e, e a list or a tuple -/
def iOf (m : EM) : IM := fun τ lh => (m τ lh).bind fun d lh => match d with
  | .loc n => if (lstAt lh n).isSome = true then .ok (.dy n) lh else .stuck
  | d => (match asS lh d with
    | some ds => .ok (.st ds) lh
    | none => .stuck)
def intsD (lo : Int) (n : Nat) : List D := (List.range n).map fun i => D.int (lo + (i : Nat))
theorem intsD_get (lo : Int) (n i : Nat) : (intsD lo n)[i]? = if i < n then some (.int (lo + (i : Nat))) else none := by
  unfold intsD
  by_cases h : i < n
  · rw [List.getElem?_map, List.getElem?_range h, if_pos h]
    rfl
  · rw [if_neg h, List.getElem?_eq_none (by simp; omega)]
def iRng (m : EM) : IM := fun τ lh => (m τ lh).bind fun d lh => match d with
  | .int j => if -(2 ^ 62) ≤ j ∧ j < 2 ^ 62 then .ok (.st (intsD 0 j.toNat)) lh else .stuck
  | _ => .stuck
def iRng3 (m1 m2 m3 : EM) : IM := fun τ lh => (m1 τ lh).bind fun a lh => (m2 τ lh).bind fun b lh => (m3 τ lh).bind fun c lh => match a, b, c with
  | .int i, .int j, .int k => if -(2 ^ 62) ≤ i ∧ i < 2 ^ 62 ∧ -(2 ^ 62) ≤ j ∧ j < 2 ^ 62 ∧ k = -1 then .ok (.st ((List.range (i - j).toNat).map fun n => D.int (i - (n : Nat)))) lh else .stuck
  | _, _, _ => .stuck
def iEnu (m : EM) : IM := fun τ lh => (m τ lh).bind fun d lh => match d with
  | .loc n => if (lstAt lh n).isSome = true then .ok (.en n) lh else .stuck
  | d => (match asL lh d with
    | some ds => .ok (.st (numb 0 ds)) lh
    | none => .stuck)
/-- a list or a tuple walked -/
def iSeq (K : PySem.W.Frag) (tl : TE) : TI := fun σ H R => tl σ H fun x H1 => ∃ a, x = .ref a ∧ (((∃ xs, SqL K H1 a xs) ∧ R (Itl K a) H1) ∨ ((∃ xs, SqT K H1 a xs) ∧ R (Itt K a) H1))
theorem pi_seq {X : Cx} {tg l : Expr} {tl : TE} (hl : PE X l tl) : PI X tg l (iSeq X.K tl) := by
  refine ⟨fun pins s σ H R I h => ?_⟩
  refine thn (hl.run pins s σ H _ I h) fun v s1 ⟨x, H1, I1, r1, q1⟩ => ?_
  obtain ⟨a, e, q1⟩ := q1
  subst e
  cases r1
  have fp : ∀ b ∈ [s1.heap.objs.size], FpOk X pins H1 b := fun b hb => by
    have e : b = s1.heap.objs.size := by simpa using hb
    subst e
    exact I1.fpOk (Nat.le_refl _) (I1.hok.fresh (Nat.le_refl _))
  rcases q1 with ⟨⟨xs, hq⟩, q⟩ | ⟨⟨xs, hq⟩, q⟩
  · obtain ⟨its, rv, p, hz⟩ := I1.list hq
    refine wpAny_pyIter_list p.isList ?_
    exact ⟨s1.heap.objs.size, [s1.heap.objs.size], _, _, H1, rfl, I1.kept (t' := s1.toks) fun b o e => Heap.get?_push_of_some _ e, turn_list a _, ⟨_, Heap.get?_push_size _ rfl, rfl, rfl⟩, fp, q⟩
  · obtain ⟨its, rv, p, hz⟩ := I1.tuple hq
    refine wpAny_pyIter_tuple (show s1.heap.IsTuple a its.toArray from p) ?_
    exact ⟨s1.heap.objs.size, [s1.heap.objs.size], _, _, H1, rfl, I1.kept (t' := s1.toks) fun b o e => Heap.get?_push_of_some _ e, turn_tuple a _, ⟨_, Heap.get?_push_size _ rfl, rfl, rfl⟩, fp, q⟩
/-- a list that is ours or not: how it is walked -/
theorem itOk_asL {G : Gx} {A : Addr → Prop} {ρ : List Addr} {H : Hp} {lh : LH} {v : V} {d : D} {ds : List D} (r : VR G A ρ H v d) (hn : ∀ n, d ≠ .loc n) (h : asL lh d = some ds) : ∃ a vs, v = .ref a ∧ LstAt G.K A ρ H a vs ∧ VRs G A ρ H vs ds := by
  cases r with
  | @lst a vs _ q h1 h2 r => cases h; exact ⟨a, vs, rfl, .inl ⟨q, h1, h2⟩, r⟩
  | @scr a vs _ q r => cases h; exact ⟨a, vs, rfl, q, r⟩
  | @loc n a q => exact absurd rfl (hn n)
  | _ => cases h
theorem itOk_enum {G : Gx} {A : Addr → Prop} {ρ : List Addr} {H : Hp} {a : Addr} {vs : List V} {ds : List D} (q : LstAt G.K A ρ H a vs) (r : VRs G A ρ H vs ds) : ItOk G A ρ H (Ite G.K a) (.st (numb 0 ds)) := fun B ρ2 H2 lh2 i hB s S => by
  have q2 := (lstAt_stp s (lstAt_bar hB q)).sq
  have r2 := (r.bar hB).stp s
  refine ⟨fun d hd => ?_, fun hd => ?_⟩
  · have hd' : (ds[i]?).map (fun d => D.tup [.int ((0 + i : Nat) : Int), d]) = some d := by
      rw [← numb_get]
      simpa [Wk.gt] using hd
    cases e : ds[i]? with
    | none => rw [e] at hd'; cases hd'
    | some z =>
      rw [e] at hd'
      cases hd'
      obtain ⟨v, h1, h2⟩ := r2.get e
      refine ⟨⟨vs, v, q2, h1⟩, fun x H3 ⟨T, y, ex, hT, eH, hy⟩ => ?_⟩
      subst ex eH
      have := hy vs q2
      rw [h1] at this
      cases this
      refine ⟨stp_new hT, S.new hT, .tup (SqT.of upd_same) (.cons ?_ (.cons (h2.stp (stp_new hT)) .nil))⟩
      rw [Nat.zero_add]
      exact .int _
  · have hd' : (numb 0 ds).length ≤ i := by simpa [Wk.gt] using hd
    rw [numb_length] at hd'
    exact ⟨vs, q2, by rw [r2.length]; exact hd'⟩
theorem itOk_enumLoc {G : Gx} {A : Addr → Prop} {ρ : List Addr} {H : Hp} {a : Addr} {n : Nat} (q : ρ[n]? = some a) : ItOk G A ρ H (Ite G.K a) (.en n) := fun B ρ2 H2 lh2 i hB s S => by
  have q2 := s.get q
  have key : ∀ xs, lstAt lh2 n = some xs → ∃ vs, H2 a = some (.lst vs) ∧ VRs G B ρ2 H2 vs xs := fun xs hx => by
    obtain ⟨b, vs, h1, h2, h3⟩ := S.lst hx
    rw [q2] at h1
    cases h1
    exact ⟨vs, h2, h3⟩
  refine ⟨fun d hd => ?_, fun hd => ?_⟩
  · cases e : lstAt lh2 n with
    | none => simp [Wk.gt, e] at hd
    | some xs =>
      obtain ⟨vs, h2, h3⟩ := key xs e
      cases e2 : xs[i]? with
      | none => simp [Wk.gt, e, e2] at hd
      | some z =>
        have hd' : D.tup [.int ((i : Nat) : Int), z] = d := by simpa [Wk.gt, e, e2] using hd
        subst hd'
        obtain ⟨v, k1, k2⟩ := h3.get e2
        refine ⟨⟨vs, v, SqL.of h2, k1⟩, fun x H3 ⟨T, y, ex, hT, eH, hy⟩ => ?_⟩
        subst ex eH
        have := hy vs (SqL.of h2)
        rw [k1] at this
        cases this
        exact ⟨stp_new hT, S.new hT, .tup (SqT.of upd_same) (.cons (.int _) (.cons (k2.stp (stp_new hT)) .nil))⟩
  · cases e : lstAt lh2 n with
    | none => simp [Wk.gt, e] at hd
    | some xs =>
      have hd' : xs.length ≤ i := by simpa [Wk.gt, e] using hd
      obtain ⟨vs, h2, h3⟩ := key xs e
      exact ⟨vs, SqL.of h2, by rw [h3.length]; exact hd'⟩
theorem itOk_rng {G : Gx} {A : Addr → Prop} {ρ : List Addr} {H : Hp} (lo : Int) (n : Nat) : ItOk G A ρ H (Itr lo n) (.st (intsD lo n)) := fun B ρ2 H2 lh2 i hB s S => by
  refine ⟨fun d hd => ?_, fun hd => ?_⟩
  · have hd' : (intsD lo n)[i]? = some d := by simpa [Wk.gt] using hd
    rw [intsD_get] at hd'
    split at hd'
    · rename_i hl
      cases hd'
      refine ⟨hl, fun x H3 ⟨eH, ex⟩ => ?_⟩
      subst eH ex
      exact ⟨Stp.refl _ _, S, .int _⟩
    · cases hd'
  · have hd' : (intsD lo n)[i]? = none := by simpa [Wk.gt] using hd
    rw [intsD_get] at hd'
    split at hd'
    · cases hd'
    · rename_i hl
      exact Nat.le_of_not_lt hl
theorem itOk_rngC {G : Gx} {A : Addr → Prop} {ρ : List Addr} {H : Hp} (lo : Int) (n : Nat) : ItOk G A ρ H (Itc lo (-1) n) (.st ((List.range n).map fun k => D.int (lo - (k : Nat)))) := fun B ρ2 H2 lh2 i hB s S => by
  refine ⟨fun d hd => ?_, fun hd => ?_⟩
  · have hd' : ((List.range n).map fun k => D.int (lo - (k : Nat)))[i]? = some d := by simpa only [Wk.gt, Option.some.injEq] using hd
    by_cases hl : i < n
    · rw [List.getElem?_map, List.getElem?_range hl] at hd'
      cases hd'
      refine ⟨hl, fun x H3 ⟨eH, ex⟩ => ?_⟩
      subst eH ex
      refine ⟨Stp.refl _ _, S, ?_⟩
      have e : lo + (i : Int) * -1 = lo - (i : Nat) := by omega
      rw [e]
      exact .int _
    · rw [List.getElem?_eq_none (by simp; omega)] at hd'
      cases hd'
  · have hd' : ((List.range n).map fun k => D.int (lo - (k : Nat)))[i]? = none := by simpa only [Wk.gt, Option.some.injEq] using hd
    by_cases hl : i < n
    · rw [List.getElem?_map, List.getElem?_range hl] at hd'
      cases hd'
    · exact Nat.le_of_not_lt hl
section
variable {X : Cx} {W : WX} {e e' e'' tg : Expr} {m m2 m3 : EM} {pos p : Pos}
theorem ei_of (h : EE X W e m) : EI X W tg e (iOf m) :=
  piImp (pi_seq h) fun σ H R ⟨A, ρ, τ, lh, er, S, pr⟩ => ⟨A, ρ, τ, lh, er, S, PRg.thn pr fun d lh1 ρ1 H1 x s1 S1 r1 pr1 => by
    split at pr1
    · rename_i n
      cases r1 with
      | @loc n a q =>
        cases e0 : lstAt lh1 n with
        | none => rw [e0] at pr1; exact pr1.elim
        | some xs =>
          rw [e0] at pr1
          obtain ⟨b, vs, h1, h2, h3⟩ := S1.lst e0
          rw [q] at h1
          cases h1
          exact ⟨a, rfl, .inl ⟨⟨vs, SqL.of h2⟩, pr1 ρ1 H1 _ (Stp.refl _ _) S1 (itOk_loc q)⟩⟩
    · rename_i hn
      split at pr1
      · rename_i ds h1
        cases r1 with
        | @tup a vs _ q r => cases h1; exact ⟨a, rfl, .inr ⟨⟨vs, q⟩, pr1 ρ1 H1 _ (Stp.refl _ _) S1 (itOk_tup q r)⟩⟩
        | @lst a vs _ q k1 k2 r => cases h1; exact ⟨a, rfl, .inl ⟨⟨vs, SqL.of q⟩, pr1 ρ1 H1 _ (Stp.refl _ _) S1 (itOk_list (.inl ⟨q, k1, k2⟩) r)⟩⟩
        | @scr a vs _ q r => cases h1; exact ⟨a, rfl, .inl ⟨⟨vs, q.sq⟩, pr1 ρ1 H1 _ (Stp.refl _ _) S1 (itOk_list q r)⟩⟩
        | @loc n a q => exact (hn n rfl).elim
        | _ => cases h1
      · exact pr1.elim⟩
theorem ei_rng (h : EE X W e m) (hm : X.mg "range" = none) (hg : Gl X "range" := by rfl) (hs : starEach [e] X.env = [(false, eval e X.env)] := by rfl) : EI X W tg (.Call (.Name "range" p) [e] [] pos) (iRng m) :=
  piImp (pi_range1 hg hm (pa_cons h pa_nil hs) hs) fun σ H R ⟨A, ρ, τ, lh, er, S, pr⟩ => ⟨A, ρ, τ, lh, er, S, PRg.thn pr fun d lh1 ρ1 H1 x s1 S1 r1 pr1 => by
    cases r1 with
    | int j =>
      simp only at pr1
      split at pr1
      · rename_i hj
        exact ⟨j, rfl, hj.1, hj.2, pr1 ρ1 H1 _ (Stp.refl _ _) S1 (itOk_rng 0 j.toNat)⟩
      · exact pr1.elim
    | _ => exact pr1.elim⟩
theorem ei_enu {elts : List Expr} {kk : Nat} {tpos : Pos} (h : EE X W e m) (hm : X.mg "enumerate" = none) (hg : Gl X "enumerate" := by rfl) (hs : starEach [e] X.env = [(false, eval e X.env)] := by rfl) : EI X W (.Tuple elts kk tpos) (.Call (.Name "enumerate" p) [e] [] pos) (iEnu m) :=
  piImp (pi_enum hg hm (pa_cons h pa_nil hs) hs) fun σ H R ⟨A, ρ, τ, lh, er, S, pr⟩ => ⟨A, ρ, τ, lh, er, S, PRg.thn pr fun d lh1 ρ1 H1 x s1 S1 r1 pr1 => by
    split at pr1
    · rename_i n
      cases r1 with
      | @loc n a q =>
        cases e0 : lstAt lh1 n with
        | none => rw [e0] at pr1; exact pr1.elim
        | some xs =>
          rw [e0] at pr1
          obtain ⟨b, vs, h1, h2, h3⟩ := S1.lst e0
          rw [q] at h1
          cases h1
          exact ⟨a, vs, rfl, SqL.of h2, pr1 ρ1 H1 _ (Stp.refl _ _) S1 (itOk_enumLoc q)⟩
    · rename_i hn
      split at pr1
      · rename_i ds h1
        obtain ⟨a, vs, rfl, q, r⟩ := itOk_asL r1 (fun n z => hn n z) h1
        exact ⟨a, vs, rfl, q.sq, pr1 ρ1 H1 _ (Stp.refl _ _) S1 (itOk_enum q r)⟩
      · exact pr1.elim⟩
end
end Tb

/-! for, list comprehensions. -/
namespace Tb
open PySem PySem.Spec PyProof.Rows L2

/-! ### for -/
/-- one turn -/
def stepG (g : GB) (b : SM) (d : D) (τ : Tau) (lh : LH) (k : Tau → LH → SRes) : SRes := match g lh d with
  | some bs => (match b (setAll τ (bs.map (·.1)) (bs.map (·.2))) lh with
    | .nx τ lh => k τ lh
    | .bk τ lh => .nx τ lh
    | .rt d lh => .rt d lh
    | .exc c τ lh => .exc c τ lh
    | .stuck => .stuck)
  | none => .stuck
def sForL (g : GB) (b : SM) : List D → SM
  | [] => fun τ lh => .nx τ lh
  | d :: ds => fun τ lh => stepG g b d τ lh (sForL g b ds)
def sForN (it : Wk) (g : GB) (b : SM) : Nat → Nat → SM
  | 0, _ => fun _ _ => .stuck
  | m + 1, i => fun τ lh => match it.gt lh i with
    | some none => .nx τ lh
    | some (some d) => stepG g b d τ lh (sForN it g b m (i + 1))
    | none => .stuck
theorem sForN_st (ds : List D) (g : GB) (b : SM) : ∀ (m i : Nat), ds.length < m + i → i ≤ ds.length → sForN (.st ds) g b m i = sForL g b (ds.drop i)
  | 0, i, h, h2 => by omega
  | m + 1, i, h, h2 => by
    funext τ lh
    unfold sForN
    by_cases hi : i < ds.length
    · have e : ds[i]? = some ds[i] := List.getElem?_eq_getElem hi
      simp only [Wk.gt, e]
      rw [List.drop_eq_getElem_cons hi, sForN_st ds g b m (i + 1) (by omega) (by omega)]
      rfl
    · simp only [Wk.gt, List.getElem?_eq_none (Nat.le_of_not_lt hi)]
      rw [List.drop_eq_nil_of_le (Nat.le_of_not_lt hi)]
      rfl
/-- how many turns a walk of a list of ours is given: its items now, and n more -/
def Wk.len (lh : LH) : Wk → Nat
  | .st ds => ds.length
  | .dy n => (lstAt lh n).elim 0 List.length
  | .en n => (lstAt lh n).elim 0 List.length
def sForW (n : Nat) (g : GB) (b : SM) (it : Wk) : SM := match it with
  | .st ds => sForL g b ds
  | .dy a => fun τ lh => sForN (.dy a) g b (n + Wk.len lh (.dy a) + 1) 0 τ lh
  | .en a => fun τ lh => sForN (.en a) g b (n + Wk.len lh (.en a) + 1) 0 τ lh
def sFor (n : Nat) (m : IM) (g : GB) (b : SM) : SM := fun τ lh => (m τ lh).toS τ fun it lh => sForW n g b it τ lh
theorem sForW_N (n : Nat) (g : GB) (b : SM) (it : Wk) (τ : Tau) (lh : LH) : ∃ k, sForW n g b it τ lh = sForN it g b k 0 τ lh := by
  cases it with
  | st ds => exact ⟨ds.length + 1, by rw [sForN_st ds g b _ 0 (by omega) (by omega)]; rfl⟩
  | dy a => exact ⟨_, rfl⟩
  | en a => exact ⟨_, rfl⟩
section
variable {X : Cx} {W : WX} {tg iter : Expr} {mi : IM} {g : GB} {b : SM} {body : List Stmt} {pos : Pos}
theorem es_for (n : Nat) (hp : PassesOwn (model X.prog X.w) X.A X.env X.xe) (hc : X.calm = true) (hi : EI X W tg iter mi) (hg : EG X tg g) (hb : ESs X W body b)
    (hs : ∀ x, foldedSetIterable iter X.env x = pure x := by intro _; rfl) : ES X W (.For tg iter body [] pos) (sFor n mi g b) :=
  psImp (ps_for hp hc hi hg hb hs) fun E σ H ⟨A, ρ, τ, lh, er, S, pr⟩ => by
    refine ⟨A, ρ, τ, lh, er, S, PSR.thn er pr fun it lh1 ρ1 H1 J s1 S1 ok pr1 => ?_⟩
    obtain ⟨k, ek⟩ := sForW_N n g b it τ lh1
    rw [ek] at pr1
    refine ⟨fun i m σ H => ∃ ρ τ lh, Stp ρ1 H1 ρ H ∧ ER (gx X) A ρ H σ τ ∧ SR (gx X) A ρ H lh ∧ PSR (gx X) W A ρ H (sForN it g b m i τ lh) E, ⟨k, ρ1, τ, lh1, Stp.refl _ _, er.stp s1, S1, pr1⟩, ?_⟩
    rintro i m σ H ⟨ρ, τ, lh, st, er, S, pr⟩
    cases m with
    | zero => exact pr.elim
    | succ m =>
      unfold sForN at pr
      obtain ⟨ok1, ok2⟩ := ok A ρ H lh i (Bar.of fun _ _ _ z => z) st S
      cases q : it.gt lh i with
      | none => simp only [q] at pr; exact pr.elim
      | some od =>
        cases od with
        | none =>
          simp only [q] at pr
          exact .inl ⟨ok2 q, pr ρ H σ (Stp.refl _ _) S er⟩
        | some d =>
          simp only [q] at pr
          obtain ⟨go, yl⟩ := ok1 d q
          refine .inr ⟨go, fun σ' H' => ∃ ρ τ lh, Stp ρ1 H1 ρ H' ∧ ER (gx X) A ρ H' σ' τ ∧ SR (gx X) A ρ H' lh ∧ PSR (gx X) W A ρ H' (sForN it g b m (i + 1) τ lh) E, fun σ' H' h => ⟨m, Nat.lt_succ_self _, h⟩, fun x H3 hy => ?_⟩
          obtain ⟨t1, t2, t3⟩ := yl x H3 hy
          unfold stepG at pr
          cases qg : g lh d with
          | none => simp only [qg] at pr; exact pr.elim
          | some bs =>
            simp only [qg] at pr
            refine ⟨A, ρ, lh, d, bs, t2, t3, qg, fun ws hw => ⟨A, ρ, _, lh, (er.stp t1).setAll hw, t2, ?_⟩⟩
            have st3 := st.trans t1
            cases qb : b (setAll τ (bs.map (·.1)) (bs.map (·.2))) lh with
            | nx τ' lh' => simp only [qb] at pr; exact fun ρ4 H4 σ4 s4 S4 e4 => ⟨ρ4, τ', lh', st3.trans s4, e4, S4, PSR.stp (t1.trans s4) pr⟩
            | bk τ' lh' => simp only [qb] at pr; exact PSR.stp (r := .nx τ' lh') t1 pr
            | rt d lh' => simp only [qb] at pr; exact PSR.stp (r := .rt d lh') t1 pr
            | exc c τ' lh' => simp only [qb] at pr; exact PSR.stp (r := .exc c τ' lh') t1 pr
            | stuck => simp only [qb] at pr; exact pr.elim
end

/-! ### comprehensions -/
def wipeD (τ : Tau) : List Nat → Tau
  | [] => τ
  | v :: vs => (wipeD τ vs).set v none
theorem wipeD_get : ∀ (vs : List Nat) (τ : Tau) (i : Nat), (wipeD τ vs)[i]? = if i ∈ vs then (τ[i]?).map (fun _ => none) else τ[i]?
  | [], τ, i => by simp [wipeD]
  | v :: vs, τ, i => by
    unfold wipeD
    rw [List.getElem?_set]
    have ih := wipeD_get vs τ i
    have hl : (wipeD τ vs).length = τ.length := by
      clear ih
      induction vs with
      | nil => rfl
      | cons w vs ih => unfold wipeD; rw [List.length_set, ih]
    by_cases hv : v = i
    · subst hv
      rw [if_pos rfl, hl]
      by_cases hl2 : v < τ.length
      · simp [hl2]
      · simp [hl2]
    · rw [if_neg hv, ih]
      have : (i ∈ v :: vs) ↔ i ∈ vs := by simp [Ne.symm hv]
      simp only [this]
theorem wipe_get : ∀ (vs : List Nat) (τ : L2.St) (i : Nat), (wipe τ vs)[i]? = if i ∈ vs then (τ[i]?).map (fun _ => none) else τ[i]?
  | [], τ, i => by simp [wipe]
  | v :: vs, τ, i => by
    unfold wipe
    rw [List.getElem?_set]
    have ih := wipe_get vs τ i
    have hl : (wipe τ vs).length = τ.length := wipe_length τ vs
    by_cases hv : v = i
    · subst hv
      rw [if_pos rfl, hl]
      by_cases hl2 : v < τ.length
      · simp [hl2]
      · simp [hl2]
    · rw [if_neg hv, ih]
      have : (i ∈ v :: vs) ↔ i ∈ vs := by simp [Ne.symm hv]
      simp only [this]
theorem setAll_get {α : Type} : ∀ {is : List Nat} {ws : List α} {σ : List (Option α)} {i : Nat}, i ∉ is → (setAll σ is ws)[i]? = σ[i]?
  | [], _, _, _, _ => by unfold setAll; rfl
  | _ :: _, [], _, _, _ => by unfold setAll; rfl
  | j :: is, w :: ws, σ, i, h => by
    unfold setAll
    rw [setAll_get (is := is) (by simp at h; exact h.2), List.getElem?_set_ne (by simp at h; exact Ne.symm h.1)]
theorem setAll_length {α : Type} : ∀ {is : List Nat} {ws : List α} {σ : List (Option α)}, (setAll σ is ws).length = σ.length
  | [], _, _ => by unfold setAll; rfl
  | _ :: _, [], _ => by unfold setAll; rfl
  | j :: is, w :: ws, σ => by
    unfold setAll
    rw [setAll_length, List.length_set]
theorem wipe_setAll {σ : L2.St} {vs is : List Nat} {ws : List V} (h : ∀ i ∈ is, i ∈ vs) : wipe (setAll (wipe σ vs) is ws) vs = wipe σ vs := by
  apply List.ext_getElem?
  intro i
  rw [wipe_get]
  by_cases hi : i ∈ vs
  · rw [if_pos hi]
    have e1 : (wipe σ vs)[i]? = (σ[i]?).map (fun _ => none) := by rw [wipe_get, if_pos hi]
    by_cases hl : i < σ.length
    · have l1 : i < (setAll (wipe σ vs) is ws).length := by rw [setAll_length, wipe_length]; exact hl
      rw [List.getElem?_eq_getElem l1, e1, List.getElem?_eq_getElem hl]
      rfl
    · rw [List.getElem?_eq_none (by rw [setAll_length, wipe_length]; omega), e1, List.getElem?_eq_none (by omega)]
      try rfl
  · rw [if_neg hi, setAll_get (fun z => hi (h i z))]
theorem ER.wipe {G : Gx} {A : Addr → Prop} {ρ : List Addr} {H : Hp} {σ : L2.St} {τ : Tau} (e : ER G A ρ H σ τ) (vs : List Nat) : ER G A ρ H (L2.wipe σ vs) (wipeD τ vs) := by
  refine ⟨?_, fun i d h => ?_⟩
  · rw [wipe_length]
    have : (wipeD τ vs).length = τ.length := by
      induction vs with
      | nil => rfl
      | cons w vs ih => unfold wipeD; rw [List.length_set, ih]
    rw [this]
    exact e.len
  · rw [wipeD_get] at h
    rw [wipe_get]
    by_cases hi : i ∈ vs
    · rw [if_pos hi] at h
      cases q : τ[i]? with
      | none => rw [q] at h; cases h
      | some z => rw [q] at h; cases h
    · rw [if_neg hi] at h ⊢
      exact e.at_ i d h

/-- A with D -/
def ins (A : Addr → Prop) (d : Addr) : Addr → Prop := fun a => A a ∨ a = d
section
variable {G : Gx} {A B : Addr → Prop} {ρ : List Addr} {H : Hp} {lh : LH} {dd : Addr}
theorem Stp.barNew {ρ1 : List Addr} (hd : H dd = none) : Bar A ρ (ins A dd) ρ H := Bar.of fun a o e z => z.elim id fun z => by rw [z, hd] at e; cases e
/-- a new list, barred -/
theorem SR.newBar {o : HO} (S : SR G A ρ H lh) (hd : H dd = none) : SR G (ins A dd) ρ (upd H dd o) lh := by
  refine ⟨S.len, S.nd, fun a z => ?_, fun n u e => ?_⟩
  · rcases z with z | z
    · obtain ⟨u, e⟩ := S.av a z
      exact ⟨u, by rw [upd_ne (ne_of_none e hd)]; exact e⟩
    · subst z; exact ⟨_, upd_same⟩
  · obtain ⟨a, h1, h2⟩ := S.obj n u e
    exact ⟨a, h1, (h2.bar (Stp.barNew (ρ1 := ρ) hd)).stp (stp_new hd) fun v z => by rw [upd_ne (ne_of_none z hd)]; exact z⟩
/-- the barred list at dd changes: nothing told sees it -/
theorem tupD {a : Addr} {vs ws : List V} {o : HO} (hd : H dd = some (.lst ws)) (q : SqT G.K H a vs) : SqT G.K (upd H dd o) a vs := by
  rcases q with (q | ⟨u, q⟩) | q
  · exact .inl (.inl (by rw [upd_ne (fun z => by rw [z, hd] at q; cases q)]; exact q))
  · exact .inl (.inr ⟨u, by rw [upd_ne (fun z => by rw [z, hd] at q; cases q)]; exact q⟩)
  · exact .inr q
theorem lstAtD {a : Addr} {vs ws : List V} {o : HO} (ha : A dd) (hd : H dd = some (.lst ws)) (q : LstAt G.K A ρ H a vs) : LstAt G.K A ρ (upd H dd o) a vs := by
  rcases q with ⟨q1, q2, q3⟩ | ⟨u, q⟩ | q
  · exact .inl ⟨by rw [upd_ne (fun z => q2 (by rw [z]; exact ha))]; exact q1, q2, q3⟩
  · exact .inr (.inl ⟨u, by rw [upd_ne (fun z => by rw [z, hd] at q; cases q)]; exact q⟩)
  · exact .inr (.inr q)
mutual
theorem VR.updD {ws : List V} {o : HO} (ha : A dd) (hd : H dd = some (.lst ws)) : ∀ {v : V} {d : D}, VR G A ρ H v d → VR G A ρ (upd H dd o) v d
  | _, _, .non => .non
  | _, _, .bl b => .bl b
  | _, _, .int b => .int b
  | _, _, .str b => .str b
  | _, _, .tup q r => .tup (tupD hd q) (VRs.updD ha hd r)
  | _, _, .lst q h1 h2 r => .lst (by rw [upd_ne (fun z => h1 (by rw [z]; exact ha))]; exact q) h1 h2 (VRs.updD ha hd r)
  | _, _, .scr q r => .scr (lstAtD ha hd q) (VRs.updD ha hd r)
  | _, _, .dic q h1 h2 r => .dic (by rw [upd_ne (fun z => h1 (by rw [z]; exact ha))]; exact q) h1 h2 (DR.updD ha hd r)
  | _, _, .loc q => .loc q
theorem VRs.updD {ws : List V} {o : HO} (ha : A dd) (hd : H dd = some (.lst ws)) : ∀ {vs : List V} {ds : List D}, VRs G A ρ H vs ds → VRs G A ρ (upd H dd o) vs ds
  | _, _, .nil => .nil
  | _, _, .cons q r => .cons (VR.updD ha hd q) (VRs.updD ha hd r)
theorem DR.updD {ws : List V} {o : HO} (ha : A dd) (hd : H dd = some (.lst ws)) : ∀ {xs : List DEnt} {ks us : List D}, DR G A ρ H xs ks us → DR G A ρ (upd H dd o) xs ks us
  | _, _, _, .nil => .nil
  | _, _, _, .cons e q r q2 t => .cons e (VR.updD ha hd q) r (VR.updD ha hd q2) (DR.updD ha hd t)
end
theorem FR.updD {ws : List V} {o : HO} (ha : A dd) (hd : H dd = some (.lst ws)) : ∀ {gs : List (Str × V)} {fs : List (Str × D)}, FR G A ρ H gs fs → FR G A ρ (upd H dd o) gs fs
  | _, _, .nil => .nil
  | _, _, .cons q r => .cons (q.updD ha hd) (FR.updD ha hd r)
theorem SR.updD {ws : List V} {o : HO} (ha : A dd) (hd : H dd = some (.lst ws)) (hn : dd ∉ ρ) (S : SR G A ρ H lh) : SR G A ρ (upd H dd o) lh := by
  refine ⟨S.len, S.nd, fun a z => ?_, fun n u e => ?_⟩
  · by_cases q : a = dd
    · subst q; exact ⟨_, upd_same⟩
    · rw [upd_ne q]; exact S.av a z
  · obtain ⟨a, h1, h2⟩ := S.obj n u e
    have ne : a ≠ dd := fun z => hn (by rw [← z]; exact List.mem_of_getElem? h1)
    refine ⟨a, h1, ?_⟩
    cases u with
    | lst ds => obtain ⟨vs, h3, h4⟩ := h2; exact ⟨vs, by rw [upd_ne ne]; exact h3, h4.updD ha hd⟩
    | dic ks us => obtain ⟨xs, h3, h4⟩ := h2; exact ⟨xs, by rw [upd_ne ne]; exact h3, h4.updD ha hd⟩
    | ins c fs => obtain ⟨dx, gs, h3, h4⟩ := h2; exact ⟨dx, gs, by rw [upd_ne ne]; exact h3, h4.updD ha hd⟩
/-- a step, and the new list at dd changes -/
theorem Stp.updD {ρ1 : List Addr} {H1 : Hp} {o : HO} (s : Stp ρ1 H1 ρ H) (hd : H1 dd = none) : Stp ρ1 H1 ρ (upd H dd o) := by
  refine ⟨s.pre, fun a u e n => ?_, fun a u e => ?_, fun a u q e => ?_, fun a u e => ?_⟩
  · rw [upd_ne (ne_of_none e hd)]; exact s.frm a u e n
  · rw [upd_ne (ne_of_none e hd)]; exact s.tup a u e
  · rw [upd_ne (ne_of_none e hd)]; exact s.frz a u q e
  · rw [upd_ne (ne_of_none e hd)]; exact s.trk a u e
end
/-- one turn of a comprehension: the items that come -/
def stepL (g : GB) (t : TM) (e : EM) (vs : List Nat) (τ : Tau) (d : D) (lh : LH) (k : LH → Option (List D × LH)) : Option (List D × LH) := match g lh d with
  | some bs => if bs.all (fun p => vs.contains p.1) = true then (match t (setAll τ (bs.map (·.1)) (bs.map (·.2))) lh with
    | .ok true lh => (match e (setAll τ (bs.map (·.1)) (bs.map (·.2))) lh with
      | .ok y lh => (match k lh with
        | some (ys, lh) => some (y :: ys, lh)
        | none => none)
      | _ => none)
    | .ok false lh => k lh
    | _ => none) else none
  | none => none
def lcL (g : GB) (t : TM) (e : EM) (vs : List Nat) (τ : Tau) : List D → LH → Option (List D × LH)
  | [], lh => some ([], lh)
  | d :: ds, lh => stepL g t e vs τ d lh (lcL g t e vs τ ds)
def lcN (it : Wk) (g : GB) (t : TM) (e : EM) (vs : List Nat) (τ : Tau) : Nat → Nat → LH → Option (List D × LH)
  | 0, _, _ => none
  | m + 1, i, lh => match it.gt lh i with
    | some none => some ([], lh)
    | some (some d) => stepL g t e vs τ d lh (lcN it g t e vs τ m (i + 1))
    | none => none
theorem lcN_st (ds : List D) (g : GB) (t : TM) (e : EM) (vs : List Nat) (τ : Tau) : ∀ (m i : Nat), ds.length < m + i → i ≤ ds.length → lcN (.st ds) g t e vs τ m i = lcL g t e vs τ (ds.drop i)
  | 0, i, h, h2 => by omega
  | m + 1, i, h, h2 => by
    funext lh
    unfold lcN
    by_cases hi : i < ds.length
    · have q : ds[i]? = some ds[i] := List.getElem?_eq_getElem hi
      simp only [Wk.gt, q]
      rw [List.drop_eq_getElem_cons hi, lcN_st ds g t e vs τ m (i + 1) (by omega) (by omega)]
      rfl
    · simp only [Wk.gt, List.getElem?_eq_none (Nat.le_of_not_lt hi)]
      rw [List.drop_eq_nil_of_le (Nat.le_of_not_lt hi)]
      rfl
def lcW (g : GB) (t : TM) (e : EM) (vs : List Nat) (τ : Tau) (it : Wk) : LH → Option (List D × LH) := match it with
  | .st ds => lcL g t e vs τ ds
  | .dy a => fun lh => lcN (.dy a) g t e vs τ (Wk.len lh (.dy a) + 1) 0 lh
  | .en a => fun lh => lcN (.en a) g t e vs τ (Wk.len lh (.en a) + 1) 0 lh
theorem lcW_N (g : GB) (t : TM) (e : EM) (vs : List Nat) (τ : Tau) (it : Wk) (lh : LH) : ∃ k, lcW g t e vs τ it lh = lcN it g t e vs τ k 0 lh := by
  cases it with
  | st ds => exact ⟨ds.length + 1, by rw [lcN_st ds g t e vs τ _ 0 (by omega) (by omega)]; rfl⟩
  | dy a => exact ⟨_, rfl⟩
  | en a => exact ⟨_, rfl⟩
/-- the whole: the items, then the new list -/
def fin (al : Bool) (ys : List D) (lh : LH) : Res D := if ys.length ≤ sizeLine then (Ro.l ys).res al lh else .stuck
def eLc (al : Bool) (mi : IM) (g : GB) (t : TM) (e : EM) (vs : List Nat) : EM := fun τ lh => (mi τ lh).bind fun it lh => match lcW g t e vs (wipeD τ vs) it lh with
  | some (ys, lh) => fin al ys lh
  | none => .stuck
/-- inside a comprehension nothing is raised -/
def W0 : WX := fun _ _ _ _ => False
theorem PRg.get {G : Gx} {A : Addr → Prop} {ρ : List Addr} {H : Hp} {α β : Type} {rel : List Addr → Hp → β → α → Prop} {r : Res α} {V : Str → Hp → Prop} {Q : β → Hp → Prop} {a : α} {lh' : LH} (e : r = .ok a lh') (h : ∀ ρ' H' b, Stp ρ H ρ' H' → SR G A ρ' H' lh' → rel ρ' H' b a → Q b H') : PRg G A ρ H rel r V Q := by
  rw [e]
  exact h
theorem lc_rule {X : Cx} {W : WX} (al : Bool) {mi : IM} {g : GB} {t : TM} {e : EM} {vs : List Nat} : ∀ σ H Q, tE (gx X) W (eLc al mi g t e vs) σ H Q → tLc (tI (gx X) W mi) (gP (gx X) g) (tT (gx X) W0 t) (tE (gx X) W0 e) vs σ H Q :=
  fun σ H Q ⟨A, ρ, τ, lh, er, S, pr⟩ => ⟨A, ρ, τ, lh, er, S, PRg.thn pr fun it lh1 ρ1 H1 J s1 S1 ok pr1 => by
    intro dd hd
    obtain ⟨k, ek⟩ := lcW_N g t e vs (wipeD τ vs) it lh1
    rw [ek] at pr1
    have nA : ¬ A dd := S1.notA hd
    have nρ : dd ∉ ρ1 := S1.fresh hd
    have erw : ER (gx X) (ins A dd) ρ1 H1 (wipe σ vs) (wipeD τ vs) := ((er.stp s1).wipe vs).bar (Stp.barNew (ρ1 := ρ) hd)
    refine ⟨fun i m H5 => ∃ ρ5 lh5 acc ys, Stp ρ1 H1 ρ5 H5 ∧ SR (gx X) (ins A dd) ρ5 H5 lh5 ∧ dd ∉ ρ5 ∧ H5 dd = some (.lst acc) ∧ VRs (gx X) (ins A dd) ρ5 H5 acc ys ∧
      ∃ zs lh', lcN it g t e vs (wipeD τ vs) m i lh5 = some (zs, lh') ∧ PRg (gx X) A ρ1 H1 (VR (gx X) A) (fin al (ys ++ zs) lh') (wAt (gx X) W σ) Q, ⟨k, ρ1, lh1, [], [], (Stp.refl _ _).updD hd, S1.newBar hd, nρ, upd_same, .nil, ?_⟩, ?_⟩
    · cases q : lcN it g t e vs (wipeD τ vs) k 0 lh1 with
      | none => rw [q] at pr1; exact pr1.elim
      | some p =>
        obtain ⟨zs, lh'⟩ := p
        rw [q] at pr1
        exact ⟨zs, lh', rfl, pr1⟩
    · rintro i m H5 ⟨ρ5, lh5, acc, ys, st, S5, n5, hD, rs, zs, lh', hk, pr⟩
      have lz : (ys ++ zs).length ≤ sizeLine := by
        by_cases z : (ys ++ zs).length ≤ sizeLine
        · exact z
        · unfold fin at pr
          rw [if_neg z] at pr
          exact pr.elim
      cases m with
      | zero => cases hk
      | succ m =>
        unfold lcN at hk
        obtain ⟨ok1, ok2⟩ := ok (ins A dd) ρ5 H5 lh5 i (Stp.barNew (ρ1 := ρ) hd) st S5
        cases q : it.gt lh5 i with
        | none => simp only [q] at hk; cases hk
        | some od =>
          cases od with
          | none =>
            simp only [q] at hk
            cases hk
            refine .inl ⟨ok2 q, ?_⟩
            unfold fin at pr
            rw [if_pos lz, List.append_nil] at pr
            cases al with
            | false =>
              have bar : Bar (ins A dd) ρ5 A ρ5 H5 := Bar.of fun _ _ _ z => .inl z
              exact pr ρ5 H5 (.ref dd) st (S5.bar bar fun a z => S5.av a (.inl z)) (.lst hD nA n5 (rs.bar bar))
            | true =>
              have bar : Bar (ins A dd) ρ5 A (ρ5 ++ [dd]) H5 := ⟨fun a o h h1 h2 => ⟨fun z => h1 (.inl z), fun z => (List.mem_append.mp z).elim h2 fun z => h1 (.inr (List.mem_singleton.mp z))⟩, fun n a z => (List.getElem?_append_left (List.getElem?_eq_some_iff.mp z).1).trans z⟩
              have el : ρ5.length = lh5.length := S5.len
              have eL : (ρ5 ++ [dd])[lh5.length]? = some dd := by rw [← el]; simp
              refine pr (ρ5 ++ [dd]) H5 (.ref dd) ⟨?_, st.frm, st.tup, st.frz, st.trk⟩ ⟨by simp [S5.len], ?_, fun a z => S5.av a (.inl z), fun n o e => ?_⟩ (.loc eL)
              · obtain ⟨r, e1, e2⟩ := st.pre
                exact ⟨r ++ [dd], by rw [e1, List.append_assoc], fun a z => (List.mem_append.mp z).elim (e2 a) fun z => by rw [List.mem_singleton.mp z]; exact hd⟩
              · refine List.nodup_append.mpr ⟨S5.nd, by simp, fun x hx y hy => ?_⟩
                rw [List.mem_singleton.mp hy]
                rintro rfl
                exact n5 hx
              · by_cases hn : n < lh5.length
                · rw [List.getElem?_append_left hn] at e
                  obtain ⟨b, h1, h2⟩ := S5.obj n o e
                  exact ⟨b, bar.at_ _ _ h1, h2.bar bar⟩
                · rw [List.getElem?_append_right (by omega)] at e
                  have en : n - lh5.length = 0 := by
                    have := (List.getElem?_eq_some_iff.mp e).1
                    simp at this
                    omega
                  rw [en] at e
                  cases e
                  have : n = lh5.length := by omega
                  rw [this]
                  exact ⟨dd, eL, acc, hD, rs.bar bar⟩
          | some d =>
            simp only [q] at hk
            obtain ⟨go, yl⟩ := ok1 d q
            refine .inr ⟨go, fun H' => ∃ ρ5 lh5 acc ys, Stp ρ1 H1 ρ5 H' ∧ SR (gx X) (ins A dd) ρ5 H' lh5 ∧ dd ∉ ρ5 ∧ H' dd = some (.lst acc) ∧ VRs (gx X) (ins A dd) ρ5 H' acc ys ∧
              ∃ zs lh', lcN it g t e vs (wipeD τ vs) m (i + 1) lh5 = some (zs, lh') ∧ PRg (gx X) A ρ1 H1 (VR (gx X) A) (fin al (ys ++ zs) lh') (wAt (gx X) W σ) Q, fun H' h => ⟨m, Nat.lt_succ_self _, h⟩, fun x H3 hy => ?_⟩
            obtain ⟨t1, t2, t3⟩ := yl x H3 hy
            unfold stepL at hk
            cases qg : g lh5 d with
            | none => simp only [qg] at hk; cases hk
            | some bs =>
              simp only [qg] at hk
              by_cases hv : bs.all (fun p => vs.contains p.1) = true
              · rw [if_pos hv] at hk
                refine ⟨ins A dd, ρ5, lh5, d, bs, t2, t3, qg, fun ws hw => ⟨wipe_setAll fun j hj => ?_, ?_⟩⟩
                · obtain ⟨p, hp, rfl⟩ := List.mem_map.mp hj
                  simpa using List.all_eq_true.mp hv p hp
                · have er3 := (erw.stp (st.trans t1)).setAll (is := bs.map (·.1)) hw
                  cases qt : t (setAll (wipeD τ vs) (bs.map (·.1)) (bs.map (·.2))) lh5 with
                  | exc c l => simp only [qt] at hk; cases hk
                  | stuck => simp only [qt] at hk; cases hk
                  | ok b lh6 =>
                    refine ⟨ins A dd, ρ5, _, lh5, er3, t2, PRg.get qt fun ρ6 H6 b' s6 S6 rb => ?_⟩
                    subst rb
                    have st6 := t1.trans s6
                    have hD6 := st6.frm _ _ hD n5
                    have n6 := st6.nin hD n5
                    cases b' with
                    | false =>
                      simp only [qt] at hk
                      exact iteF ⟨ρ6, lh6, acc, ys, st.trans st6, S6, n6, hD6, rs.stp st6, zs, lh', hk, pr⟩
                    | true =>
                      simp only [qt] at hk
                      refine iteT ?_
                      cases qe : e (setAll (wipeD τ vs) (bs.map (·.1)) (bs.map (·.2))) lh6 with
                      | exc c l => simp only [qe] at hk; cases hk
                      | stuck => simp only [qe] at hk; cases hk
                      | ok y lh7 =>
                        simp only [qe] at hk
                        refine ⟨ins A dd, ρ6, _, lh6, er3.stp s6, S6, PRg.get qe fun ρ7 H7 yv s7 S7 ry => ?_⟩
                        have st7 := st6.trans s7
                        have hD7 := st7.frm _ _ hD n5
                        have n7 := st7.nin hD n5
                        cases qn : lcN it g t e vs (wipeD τ vs) m (i + 1) lh7 with
                        | none => simp only [qn] at hk; cases hk
                        | some p =>
                          obtain ⟨zs2, lh8⟩ := p
                          simp only [qn] at hk
                          cases hk
                          refine ⟨acc, hD7, ?_, ρ7, lh7, acc ++ [yv], ys ++ [y], (st.trans st7).updD hd, S7.updD (.inr rfl) hD7 n7, n7, upd_same, VRs.updD (.inr rfl) hD7 ((rs.stp st7).append (.cons ry .nil)), zs2, _, qn, ?_⟩
                          · rw [rs.length]
                            simp only [List.length_append, List.length_cons] at lz
                            omega
                          · rw [List.append_assoc]
                            exact pr
              · rw [if_neg hv] at hk
                cases hk⟩
section
variable {X : Cx} {W : WX} {elt tg iter a : Expr} {ifs : List Expr} {mi : IM} {g : GB} {t : TM} {e : EM} {pos spos py : Pos} {scope : Scope} {own : List (Str × Nat)}
def tYesD : TM := fun _ lh => .ok true lh
abbrev ETs (X : Cx) (W : WX) (ifs : List Expr) (t : TM) : Prop := PTs X ifs (tT (gx X) W t)
theorem ets_nil : ETs X W [] tYesD := ⟨fun pins s σ H Q I ⟨A, ρ, τ, lh, er, S, pr⟩ => wpAny_tests_nil ⟨H, I, pr ρ H true (Stp.refl _ _) S rfl⟩⟩
theorem ets_one {c : Expr} (h : ET X W c t) : ETs X W [c] t := pts_one h
theorem ee_lc (al : Bool) (hc : X.calm = true) (hN : X.N.Nodup) (own : List (Str × Nat)) (hi : EI X W tg iter mi) (ok : blkC X.N X.env.scope scope own = true)
    (hg : ∀ (s : Shared) (H : Hp) (C : Addr) (cl : List (Str × Addr)) (fp : List Addr), EG (X.blk s H scope (compEnvC scope cl C X.env) fp) tg g) (ht : ∀ (s : Shared) (H : Hp) (C : Addr) (cl : List (Str × Addr)) (fp : List Addr), ETs (X.blk s H scope (compEnvC scope cl C X.env) fp) W0 ifs t)
    (he : ∀ (s : Shared) (H : Hp) (C : Addr) (cl : List (Str × Addr)) (fp : List Addr), EE (X.blk s H scope (compEnvC scope cl C X.env) fp) W0 elt e) (hs : ∀ x, foldedSetIterable iter X.env x = pure x := by intro _; rfl) :
    EE X W (.ListComp elt [⟨tg, iter, ifs, 0⟩] scope pos) (eLc al mi g t e (own.map (·.2))) :=
  peImp (pe_lc hc hN hi (blkOk_by ok) hg ht he hs) (lc_rule al)
theorem es_setLc (i : Nat) {y : Str} (al : Bool) (hc : X.calm = true) (hN : X.N.Nodup) (own : List (Str × Nat)) (hi : EI X W tg iter mi) (ok : blkC X.N X.env.scope scope own = true)
    (hg : ∀ (s : Shared) (H : Hp) (C : Addr) (cl : List (Str × Addr)) (fp : List Addr), EG (X.blk s H scope (compEnvC scope cl C X.env) fp) tg g) (ht : ∀ (s : Shared) (H : Hp) (C : Addr) (cl : List (Str × Addr)) (fp : List Addr), ETs (X.blk s H scope (compEnvC scope cl C X.env) fp) W0 ifs t)
    (he : ∀ (s : Shared) (H : Hp) (C : Addr) (cl : List (Str × Addr)) (fp : List Addr), EE (X.blk s H scope (compEnvC scope cl C X.env) fp) W0 elt e)
    (hy : X.N[i]? = some y := by rfl) (hyl : X.env.scope.names.lookup y = some .local := by rfl) (hsw : swapsWith (.ListComp elt [⟨tg, iter, ifs, 0⟩] scope pos) (some (.Name y py)) spos.line X.env = pure true := by rfl) (hs : ∀ x, foldedSetIterable iter X.env x = pure x := by intro _; rfl) :
    ES X W (.Assign [.Name y py] (.ListComp elt [⟨tg, iter, ifs, 0⟩] scope pos) spos) (sSet i (eLc al mi g t e (own.map (·.2)))) :=
  es_setT i (ps_setLc hc hN hy hyl hsw hi (blkOk_by ok) hg ht he hs) (lc_rule al)
end
end Tb

/-! Calls of builtins. -/
namespace Tb
open PySem PySem.Spec PyProof.Rows L2

/-- f(e, ..): what comes of the values -/
def eCall (al : Bool) (g : LH → List D → Ro) (m : AM) : EM := fun τ lh => (m τ lh).bind fun ds lh => (g lh ds).res al lh
def rC (G : Gx) (al : Bool) (g : LH → List D → Ro) : List V → Hp → VK → Prop := fun xs H Q => ∃ A ρ lh ds, SR G A ρ H lh ∧ VRs G A ρ H xs ds ∧ PRo G A ρ H al lh (g lh ds) Q
abbrev CallD (X : Cx) (f : Value) (g : LH → List D → Ro) : Prop := ∀ al, CallR X f (rC (gx X) al g)
section
variable {X : Cx} {W : WX} {e : Expr} {es : List Expr} {m : AM} {p pos : Pos} {x : Str} {g : LH → List D → Ro}
theorem ee_callB {id : String} (al : Bool) (hc : CallD X (.builtin id) g) (ha : EA X W (e :: es) m) (hm : X.mg x = none) (hv : bootBuiltins x = some (.builtin id)) (hg : Gl X x := by rfl) (hn : x ≠ "__name__" := by decide) (hdb : (x == ("__debug__" : Str)) = false := by decide)
    (he : starEach (e :: es) X.env = (false, eval e X.env) :: starEach es X.env := by rfl) (hpl : (backTo pos (starEach es X.env)).any (·.1) = false := by rfl) : EE X W (.Call (.Name x p) (e :: es) [] pos) (eCall al g m) :=
  peImp (pe_callB (hc al) hg hm hv ha hn hdb he hpl) fun σ H Q ⟨A, ρ, τ, lh, er, S, pr⟩ => ⟨A, ρ, τ, lh, er, S, PRg.thn pr fun ds lh1 ρ1 H1 xs s1 S1 r1 pr1 => ⟨A, ρ1, lh1, ds, S1, r1, PRo.of pr1⟩⟩
theorem ee_callTy {T : String} (al : Bool) (hc : CallD X (.type T) g) (ha : EA X W (e :: es) m) (hm : X.mg x = none) (hv : bootBuiltins x = some (.type T)) (hg : Gl X x := by rfl) (hn : x ≠ "__name__" := by decide) (hdb : (x == ("__debug__" : Str)) = false := by decide)
    (he : starEach (e :: es) X.env = (false, eval e X.env) :: starEach es X.env := by rfl) (hpl : (backTo pos (starEach es X.env)).any (·.1) = false := by rfl) : EE X W (.Call (.Name x p) (e :: es) [] pos) (eCall al g m) :=
  peImp (pe_callTy (hc al) hg hm hv ha hn hdb he hpl) fun σ H Q ⟨A, ρ, τ, lh, er, S, pr⟩ => ⟨A, ρ, τ, lh, er, S, PRg.thn pr fun ds lh1 ρ1 H1 xs s1 S1 r1 pr1 => ⟨A, ρ1, lh1, ds, S1, r1, PRo.of pr1⟩⟩
end
theorem VRs.one {G : Gx} {A : Addr → Prop} {ρ : List Addr} {H : Hp} {vs : List V} {d : D} (r : VRs G A ρ H vs [d]) : ∃ v, vs = [v] ∧ VR G A ρ H v d := by
  cases r with
  | cons h t => cases t; exact ⟨_, rfl, h⟩
theorem VRs.two {G : Gx} {A : Addr → Prop} {ρ : List Addr} {H : Hp} {vs : List V} {d e : D} (r : VRs G A ρ H vs [d, e]) : ∃ v w, vs = [v, w] ∧ VR G A ρ H v d ∧ VR G A ρ H w e := by
  cases r with
  | cons h t =>
    obtain ⟨w, rfl, h2⟩ := t.one
    exact ⟨_, w, rfl, h, h2⟩
/-! ### the functions -/
def lenG (lh : LH) (ds : List D) : Ro := match ds with
  | [.str s] => if s.length ≤ sizeLine then .v (.int s.length) else .no
  | [d] => (match asS lh d with
    | some xs => .v (.int xs.length)
    | none => .no)
  | _ => .no
/-- whole numbers, all of them -/
def intOf : D → Option Int
  | .int i => some i
  | _ => none
def blOf : D → Option Bool
  | .bl b => some b
  | _ => none
def sumG (lh : LH) (ds : List D) : Ro := match ds with
  | [d] => (match asL lh d with
    | some xs => (match mapO intOf xs with
      | some ns => .v (.int ns.sum)
      | none => .no)
    | none => .no)
  | _ => .no
def lisG (lh : LH) (ds : List D) : Ro := match ds with
  | [d] => (match asS lh d with
    | some xs => .l xs
    | none => .no)
  | _ => .no
def tupG (lh : LH) (ds : List D) : Ro := match ds with
  | [.tup xs] => .v (.tup xs)
  | [d] => (match asL lh d with
    | some xs => .v (.tup xs)
    | none => .no)
  | _ => .no
def allG (lh : LH) (ds : List D) : Ro := match ds with
  | [d] => (match asL lh d with
    | some xs => (match mapO blOf xs with
      | some ns => .v (.bl (ns.all id))
      | none => .no)
    | none => .no)
  | _ => .no
def anyG (lh : LH) (ds : List D) : Ro := match ds with
  | [d] => (match asL lh d with
    | some xs => (match mapO blOf xs with
      | some ns => .v (.bl (ns.any id))
      | none => .no)
    | none => .no)
  | _ => .no
def absG (_ : LH) (ds : List D) : Ro := match ds with
  | [.int i] => .v (.int (if i < 0 then -i else i))
  | _ => .no
def intG (_ : LH) (ds : List D) : Ro := match ds with
  | [.int i] => .v (.int i)
  | [.bl b] => .v (.int (if b then 1 else 0))
  | _ => .no
def maxG (_ : LH) (ds : List D) : Ro := match ds with
  | [.int i, .int j] => .v (.int (if j > i then j else i))
  | _ => .no
/-- the least of a list -/
def leastI : List Int → Option Int
  | [] => none
  | i :: is => match leastI is with
    | some j => some (if j < i then j else i)
    | none => some i
def minG (lh : LH) (ds : List D) : Ro := match ds with
  | [.int i, .int j] => .v (.int (if j < i then j else i))
  | [.int i, .int j, .int k] => .v (.int (if k < (if j < i then j else i) then k else (if j < i then j else i)))
  | [d] => (match asL lh d with
    | some xs => (match mapO intOf xs with
      | some ns => (match leastI ns with
        | some i => .v (.int i)
        | none => .no)
      | none => .no)
    | none => .no)
  | _ => .no
section
variable {G : Gx} {A : Addr → Prop} {ρ : List Addr} {H : Hp} {lh : LH}
theorem rs_ints : ∀ {ds : List D} {vs : List V} {ns : List Int}, VRs G A ρ H vs ds → mapO intOf ds = some ns → vs = ns.map V.int
  | [], _, _, r, h => by cases r; cases h; rfl
  | d :: ds, _, _, .cons r1 r2, h => by
    obtain ⟨y, ys, h1, h2, rfl⟩ := mapO_cons h
    cases d with
    | int i => cases h1; cases r1; rw [rs_ints r2 h2]; rfl
    | _ => cases h1
theorem rs_bls : ∀ {ds : List D} {vs : List V} {ns : List Bool}, VRs G A ρ H vs ds → mapO blOf ds = some ns → vs = ns.map V.bl
  | [], _, _, r, h => by cases r; cases h; rfl
  | d :: ds, _, _, .cons r1 r2, h => by
    obtain ⟨y, ys, h1, h2, rfl⟩ := mapO_cons h
    cases d with
    | bl i => cases h1; cases r1; rw [rs_bls r2 h2]; rfl
    | _ => cases h1
theorem leastI_spec : ∀ {ns : List Int} {i : Int}, leastI ns = some i → i ∈ ns ∧ ∀ y ∈ ns, i ≤ y
  | [], _, h => by cases h
  | n :: ns, i, h => by
    unfold leastI at h
    cases q : leastI ns with
    | none =>
      rw [q] at h
      cases h
      have : ns = [] := by
        cases ns with
        | nil => rfl
        | cons a as =>
          unfold leastI at q
          split at q <;> cases q
      subst this
      simp
    | some j =>
      rw [q] at h
      obtain ⟨h1, h2⟩ := leastI_spec q
      cases h
      by_cases hl : j < n
      · rw [if_pos hl]
        exact ⟨List.mem_cons_of_mem _ h1, fun y hy => (List.mem_cons.mp hy).elim (fun e => by omega) (h2 y)⟩
      · rw [if_neg hl]
        exact ⟨List.mem_cons_self, fun y hy => (List.mem_cons.mp hy).elim (fun e => by omega) fun z => by have := h2 y z; omega⟩
theorem leastI_uniq {ns : List Int} {i m : Int} (h : leastI ns = some i) (hm : m ∈ ns) (hl : ∀ y ∈ ns, m ≤ y) : m = i := by
  obtain ⟨h1, h2⟩ := leastI_spec h
  have := h2 m hm
  have := hl i h1
  omega
end
section
variable {X : Cx}
theorem cb_len : CallD X (.builtin "len") lenG := fun al => callImp call_len fun xs H Q ⟨A, ρ, lh, ds, S, r, pr⟩ => by
  unfold lenG at pr
  split at pr
  · rename_i s
    split at pr
    · rename_i hz
      obtain ⟨v, rfl, rv⟩ := r.one
      cases rv
      exact ⟨_, _, rfl, ⟨hz, rfl⟩, pr.val S (.int _)⟩
    · exact pr.elim
  · rename_i d _
    split at pr
    · rename_i xs' h1
      obtain ⟨v, rfl, rv⟩ := r.one
      obtain ⟨a, vs, rfl, hq, rs⟩ := asS_rel S rv h1
      refine ⟨.ref a, xs'.length, rfl, ?_, pr.val S (.int _)⟩
      rcases hq with hq | hq
      · exact .inl ⟨vs, hq, rs.length.symm⟩
      · exact .inr ⟨vs, hq, rs.length.symm⟩
    · exact pr.elim
  · exact pr.elim
theorem cb_sum (hc : X.calm = true) : CallD X (.builtin "sum") sumG := fun al => callImp (cr_sum hc) fun xs H Q ⟨A, ρ, lh, ds, S, r, pr⟩ => by
  unfold sumG at pr
  split at pr
  · split at pr
    · rename_i h1
      split at pr
      · rename_i ns h2
        obtain ⟨v, rfl, rv⟩ := r.one
        obtain ⟨a, vs, rfl, hq, rs⟩ := asL_rel S rv h1
        have e := rs_ints rs h2
        subst e
        exact ⟨a, ns, rfl, hq, pr.val S (.int _)⟩
      · exact pr.elim
    · exact pr.elim
  · exact pr.elim
theorem cb_all (hc : X.calm = true) : CallD X (.builtin "all") allG := fun al => callImp (cr_all hc) fun xs H Q ⟨A, ρ, lh, ds, S, r, pr⟩ => by
  unfold allG at pr
  split at pr
  · split at pr
    · rename_i h1
      split at pr
      · rename_i ns h2
        obtain ⟨v, rfl, rv⟩ := r.one
        obtain ⟨a, vs, rfl, hq, rs⟩ := asL_rel S rv h1
        have e := rs_bls rs h2
        subst e
        exact ⟨a, ns, rfl, hq, pr.val S (.bl _)⟩
      · exact pr.elim
    · exact pr.elim
  · exact pr.elim
theorem cb_any (hc : X.calm = true) : CallD X (.builtin "any") anyG := fun al => callImp (cr_any hc) fun xs H Q ⟨A, ρ, lh, ds, S, r, pr⟩ => by
  unfold anyG at pr
  split at pr
  · split at pr
    · rename_i h1
      split at pr
      · rename_i ns h2
        obtain ⟨v, rfl, rv⟩ := r.one
        obtain ⟨a, vs, rfl, hq, rs⟩ := asL_rel S rv h1
        have e := rs_bls rs h2
        subst e
        exact ⟨a, ns, rfl, hq, pr.val S (.bl _)⟩
      · exact pr.elim
    · exact pr.elim
  · exact pr.elim
theorem cb_list : CallD X (.type "list") lisG := fun al => callImp call_list_of fun xs H Q ⟨A, ρ, lh, ds, S, r, pr⟩ => by
  unfold lisG at pr
  split at pr
  · split at pr
    · rename_i h1
      obtain ⟨v, rfl, rv⟩ := r.one
      obtain ⟨a, vs, rfl, hq, rs⟩ := asS_rel S rv h1
      exact ⟨a, vs, rfl, hq, pr.new S rs⟩
    · exact pr.elim
  · exact pr.elim
theorem cb_tuple : CallD X (.type "tuple") tupG := fun al => callImp call_tuple_of fun xs H Q ⟨A, ρ, lh, ds, S, r, pr⟩ => by
  unfold tupG at pr
  split at pr
  · obtain ⟨v, rfl, rv⟩ := r.one
    have rv' := rv
    cases rv with
    | @tup a vs _ hq rs => exact ⟨a, vs, rfl, .inr ⟨hq, pr.val S rv'⟩⟩
  · split at pr
    · rename_i h1
      obtain ⟨v, rfl, rv⟩ := r.one
      obtain ⟨a, vs, rfl, hq, rs⟩ := asL_rel S rv h1
      exact ⟨a, vs, rfl, .inl ⟨hq, pr.tup S rs⟩⟩
    · exact pr.elim
  · exact pr.elim
theorem cb_abs : CallD X (.builtin "abs") absG := fun al => callImp call_abs fun xs H Q ⟨A, ρ, lh, ds, S, r, pr⟩ => by
  unfold absG at pr
  split at pr
  · obtain ⟨v, rfl, rv⟩ := r.one
    cases rv
    exact ⟨_, rfl, pr.val S (.int _)⟩
  · exact pr.elim
theorem cb_int : CallD X (.type "int") intG := fun al => callImp call_int1 fun xs H Q ⟨A, ρ, lh, ds, S, r, pr⟩ => by
  unfold intG at pr
  split at pr
  · obtain ⟨v, rfl, rv⟩ := r.one
    cases rv
    exact .inl ⟨_, rfl, pr.val S (.int _)⟩
  · obtain ⟨v, rfl, rv⟩ := r.one
    cases rv
    exact .inr ⟨_, rfl, pr.val S (.int _)⟩
  · exact pr.elim
theorem cb_max (hc : X.calm = true) : CallD X (.builtin "max") maxG := fun al => callImp (call_max2 hc) fun xs H Q ⟨A, ρ, lh, ds, S, r, pr⟩ => by
  unfold maxG at pr
  split at pr
  · obtain ⟨v, w, rfl, rv, rw'⟩ := r.two
    cases rv
    cases rw'
    exact ⟨_, _, rfl, pr.val S (.int _)⟩
  · exact pr.elim
theorem cb_min (hc : X.calm = true) : CallD X (.builtin "min") minG := fun al => callImp (CallR.or (call_min2 hc) (CallR.or (cr_min hc) (call_min3Nu hc))) fun xs H Q ⟨A, ρ, lh, ds, S, r, pr⟩ => by
  unfold minG at pr
  split at pr
  · obtain ⟨v, w, rfl, rv, rw'⟩ := r.two
    cases rv
    cases rw'
    exact .inl ⟨_, _, rfl, pr.val S (.int _)⟩
  · rename_i i j k
    refine .inr (.inr ?_)
    cases r with
    | cons r1 r =>
      obtain ⟨v, w, rfl, r2, r3⟩ := r.two
      cases r1
      cases r2
      cases r3
      refine ⟨.int i, .int j, .int k, _, rfl, ?_, pr.val S (.int _)⟩
      show ((nuMin2 (.int i) (.int j)).bind fun m => nuMin2 m (.int k)) = _
      have e : ∀ i j : Int, nuMin2 (.int i) (.int j) = some (.int (if j < i then j else i)) := fun i j => by
        show some (if decide (j < i) = true then V.int j else V.int i) = _
        by_cases h : j < i
        · simp [h]
        · simp [h]
      rw [e i j]
      exact e _ k
  · split at pr
    · rename_i h1
      split at pr
      · rename_i ns h2
        split at pr
        · rename_i i h3
          obtain ⟨v, rfl, rv⟩ := r.one
          obtain ⟨a, vs, rfl, hq, rs⟩ := asL_rel S rv h1
          have e := rs_ints rs h2
          subst e
          refine .inr (.inl ⟨a, ns, rfl, hq, ?_, fun m hm hl => ?_⟩)
          · cases ns with
            | nil => cases h3
            | cons _ _ => simp
          · rw [leastI_uniq h3 hm hl]
            exact pr.val S (.int _)
        · exact pr.elim
      · exact pr.elim
    · exact pr.elim
  · exact pr.elim
end

/-! ### isinstance -/
inductive Ty where
  | b (n : String) | c (x : Str)
def tyD (lh : LH) : D → Option Ty
  | .non => some (.b "NoneType")
  | .bl _ => some (.b "bool")
  | .int _ => some (.b "int")
  | .str _ => some (.b "str")
  | .tup _ => some (.b "tuple")
  | .lst _ => some (.b "list")
  | .scr _ => some (.b "list")
  | .dic _ _ => none
  | .loc n => (match lh[n]? with
    | some (.lst _) => some (.b "list")
    | some (.ins c _) => some (.c c)
    | _ => none)
def tyVal (K : PySem.W.Frag) : Ty → Value
  | .b n => .type n
  | .c x => .ref (He.ga K x)
/-- what isinstance asks of an own class -/
structure InsOk (K : PySem.W.Frag) (x : Str) : Prop where
  cl : Cls K (He.ga K x)
  ha : PySem.W.findIn K (.ref (He.ga K x)) "__class__" = some (some (.builtin "object.__class__"))
  hn : PySem.W.specialIn K (.builtin "object.__class__") "__get__" = some (some (.builtin "getset_descriptor.__get__"))
  htk : PySem.W.takesIn K (.builtin "object.__class__") = some true
  hm : PySem.W.mroIn K (He.ga K x) (.type "object") = some true
theorem tyX_rel {G : Gx} {A : Addr → Prop} {ρ : List Addr} {H : Hp} {lh : LH} {v : V} {d : D} {t : Ty} (S : SR G A ρ H lh) (r : VR G A ρ H v d) (h : tyD lh d = some t) (ho : ∀ x, t = .c x → InsOk G.K x) : TyX G.K H v (tyVal G.K t) := by
  cases r with
  | non => cases h; exact .base .non
  | bl b => cases h; exact .base (.bl b)
  | int i => cases h; exact .base (.int i)
  | str s => cases h; exact .base (.str s)
  | @tup a vs ds q _ =>
    cases h
    rcases q with (q | ⟨o, q⟩) | q
    · exact .base (.tup q)
    · exact .fTuple q
    · obtain ⟨o, its, n, e, c, _⟩ := q
      exact .kTuple e c
  | @lst a vs ds q _ _ _ => cases h; exact .base (.lst q)
  | @scr a vs ds q _ =>
    cases h
    rcases q with ⟨q, _⟩ | ⟨o, q⟩ | q
    · exact .base (.lst q)
    · exact .base (.frz q)
    · obtain ⟨o, its, n, e, c, _⟩ := q
      exact .kList e c
  | dic _ _ _ _ => cases h
  | @loc n a q =>
    unfold tyD at h
    cases e : lh[n]? with
    | none => simp only [e] at h; cases h
    | some o =>
      obtain ⟨b, h1, h2⟩ := S.obj n o e
      rw [q] at h1
      cases h1
      cases o with
      | lst ds =>
        simp only [e] at h
        cases h
        obtain ⟨vs, h3, _⟩ := h2
        exact .base (.lst h3)
      | dic _ _ => simp only [e] at h; cases h
      | ins c fs =>
        simp only [e] at h
        cases h
        obtain ⟨dx, gs, h3, _⟩ := h2
        have k := ho c rfl
        exact .base (.ins h3 k.cl k.ha k.hn k.htk k.hm)
def eIsi (f : Ty → Option Bool) (m : EM) : EM := fun τ lh => (m τ lh).bind fun d lh => match tyD lh d with
  | some t => (match f t with
    | some b => .ok (.bl b) lh
    | none => .stuck)
  | none => .stuck
def fB (Ts : List String) : Ty → Option Bool
  | .b n => some (Ts.any fun T => n == T || (T == "int" && n == "bool"))
  | .c _ => none
def fO (cs : List (Str × Bool)) : Ty → Option Bool
  | .b _ => some false
  | .c x => cs.lookup x
section
variable {X : Cx} {W : WX} {e c c2 : Expr} {m : EM} {p pos tp : Pos} {k : Nat}
theorem ee_isi (f : Ty → Option Bool) {cv : V} {u : Value} (hk : ClsV cv u) (hf : ∀ t b, (∃ lh d, tyD lh d = some t) → f t = some b → PySem.W.kitOne X.K (tyVal X.K t) u = some b ∧ ∀ x, t = .c x → InsOk X.K x) (h : EE X W e m) (hcl : PE X c (tC cv)) (hm : X.mg "isinstance" = none) (hg : Gl X "isinstance" := by rfl)
    (he : starEach (e :: [c]) X.env = (false, eval e X.env) :: starEach [c] X.env := by rfl) (hpl : (backTo pos (starEach [c] X.env)).any (·.1) = false := by rfl) (hs2 : starEach [c] X.env = (false, eval c X.env) :: starEach [] X.env := by rfl) :
    EE X W (.Call (.Name "isinstance" p) [e, c] [] pos) (eIsi f m) :=
  peImp (pe_callB call_isi hg hm (by rfl) (pa_cons h (pa_cons hcl pa_nil hs2) he) (he := he) (hpl := hpl)) fun σ H Q ⟨A, ρ, τ, lh, er, S, pr⟩ => ⟨A, ρ, τ, lh, er, S, PRg.thn pr fun d lh1 ρ1 H1 x s1 S1 r1 pr1 => by
    cases q : tyD lh1 d with
    | none => simp only [q] at pr1; exact pr1.elim
    | some t =>
      simp only [q] at pr1
      cases q2 : f t with
      | none => simp only [q2] at pr1; exact pr1.elim
      | some b =>
        simp only [q2] at pr1
        obtain ⟨k1, k2⟩ := hf t b ⟨_, _, q⟩ q2
        exact ⟨x, cv, _, u, b, rfl, hk, tyX_rel S1 r1 q k2, k1, pr1 ρ1 H1 _ (Stp.refl _ _) S1 (.bl b)⟩⟩
theorem ty_names {lh : LH} {d : D} {n : String} (h : tyD lh d = some (.b n)) : n = "NoneType" ∨ n = "bool" ∨ n = "int" ∨ n = "str" ∨ n = "tuple" ∨ n = "list" := by
  cases d with
  | loc a =>
    have h' : (match lh[a]? with
      | some (.lst _) => some (Ty.b "list")
      | some (.ins c _) => some (.c c)
      | _ => none) = some (.b n) := h
    split at h'
    · cases h'; simp
    · cases h'
    · cases h'
  | _ => cases h <;> simp
/-- isinstance(e, T), T a builtin type -/
theorem ee_isiB (T : String) (x : Str) {q : Pos} (hT : ∀ n ∈ ["NoneType", "bool", "int", "str", "tuple", "list"], PySem.W.kitOne X.K (.type n) (.type T) = (fB [T] (.b n))) (h : EE X W e m) (hm : X.mg "isinstance" = none) (hx : X.mg x = none) (hv : bootBuiltins x = some (.type T)) (hgx : Gl X x := by rfl) (hg : Gl X "isinstance" := by rfl)
    (he : starEach (e :: [.Name x q]) X.env = (false, eval e X.env) :: starEach [.Name x q] X.env := by rfl) (hpl : (backTo pos (starEach [.Name x q] X.env)).any (·.1) = false := by rfl) (hs2 : starEach [.Name x q] X.env = (false, eval (.Name x q) X.env) :: starEach [] X.env := by rfl) (hn : x ≠ "__name__" := by decide) (hdb : (x == ("__debug__" : Str)) = false := by decide) :
    EE X W (.Call (.Name "isinstance" p) [e, .Name x q] [] pos) (eIsi (fB [T]) m) :=
  ee_isi (fB [T]) (.ty T) (fun t b hd hb => by
    obtain ⟨lh, d, hd⟩ := hd
    cases t with
    | b n =>
      refine ⟨?_, fun x z => nomatch z⟩
      have := hT n (by rcases ty_names hd with z | z | z | z | z | z <;> simp [z])
      rw [← hb]
      exact this
    | c y => cases hb) h (pe_bltn hgx hx hv rfl hn hdb) hm hg he hpl hs2
/-- isinstance(e, (T, U)) -/
theorem ee_isiB2 (T U : String) (x y : Str) {q q2 : Pos} (hT : ∀ n ∈ ["NoneType", "bool", "int", "str", "tuple", "list"], PySem.W.kitAny X.K (.type n) [.type T, .type U] = (fB [T, U] (.b n))) (h : EE X W e m) (hm : X.mg "isinstance" = none) (hx : X.mg x = none) (hv : bootBuiltins x = some (.type T)) (hy : X.mg y = none) (hvy : bootBuiltins y = some (.type U)) (hgx : Gl X x := by rfl) (hgy : Gl X y := by rfl) (hg : Gl X "isinstance" := by rfl)
    (he : starEach (e :: [.Tuple [.Name x q, .Name y q2] k tp]) X.env = (false, eval e X.env) :: starEach [.Tuple [.Name x q, .Name y q2] k tp] X.env := by rfl) (hpl : (backTo pos (starEach [.Tuple [.Name x q, .Name y q2] k tp] X.env)).any (·.1) = false := by rfl)
    (hs2 : starEach [.Tuple [.Name x q, .Name y q2] k tp] X.env = (false, eval (.Tuple [.Name x q, .Name y q2] k tp) X.env) :: starEach [] X.env := by rfl) (ht1 : starEach [.Name x q, .Name y q2] X.env = (false, eval (.Name x q) X.env) :: starEach [.Name y q2] X.env := by rfl) (ht2 : starEach [.Name y q2] X.env = (false, eval (.Name y q2) X.env) :: starEach [] X.env := by rfl)
    (hn : x ≠ "__name__" := by decide) (hdb : (x == ("__debug__" : Str)) = false := by decide) (hn2 : y ≠ "__name__" := by decide) (hdb2 : (y == ("__debug__" : Str)) = false := by decide) :
    EE X W (.Call (.Name "isinstance" p) [e, .Tuple [.Name x q, .Name y q2] k tp] [] pos) (eIsi (fB [T, U]) m) :=
  peImp (pe_callB call_isiT hg hm (by rfl) (pa_cons h (pa_cons (pe_tup (pa_cons (pe_bltn (v := .ty T) hgx hx hv rfl hn hdb) (pa_cons (pe_bltn (v := .ty U) hgy hy hvy rfl hn2 hdb2) pa_nil ht2) ht1)) pa_nil hs2) he) (he := he) (hpl := hpl)) fun σ H Q ⟨A, ρ, τ, lh, er, S, pr⟩ => ⟨A, ρ, τ, lh, er, S, PRg.thn pr fun d lh1 ρ1 H1 x s1 S1 r1 pr1 => by
    cases q : tyD lh1 d with
    | none => simp only [q] at pr1; exact pr1.elim
    | some t =>
      simp only [q] at pr1
      cases t with
      | c y => exact pr1.elim
      | b n =>
        refine ⟨by show 2 ≤ sizeLine; decide, fun p hp => ⟨x, p, [.ty T, .ty U], .type n, [.type T, .type U], _, rfl, upd_same, .cons (.ty T) (.cons (.ty U) .nil), tyX_rel (S1.new hp) (r1.stp (stp_new hp)) q (fun x z => nomatch z), ?_, pr1 ρ1 _ _ (stp_new hp) (S1.new hp) (.bl _)⟩⟩
        exact hT n (by rcases ty_names q with z | z | z | z | z | z <;> simp [z])⟩
/-- what is known of an own class D: which classes are under it -/
def OwnIs (K : PySem.W.Frag) (dd : Str) (cs : List (Str × Bool)) : Prop :=
  (∀ n ∈ ["NoneType", "bool", "int", "str", "tuple", "list"], PySem.W.kitOne K (.type n) (.ref (He.ga K dd)) = some false) ∧ ∀ p ∈ cs, InsOk K p.1 ∧ PySem.W.kitOne K (.ref (He.ga K p.1)) (.ref (He.ga K dd)) = some p.2
theorem ee_isiO (dd : Str) (cs : List (Str × Bool)) {q : Pos} (ho : OwnIs X.K dd cs) (h : EE X W e m) (hm : X.mg "isinstance" = none) (hx : X.mg dd = some (.ref (He.ga X.K dd))) (hgx : Gl X dd := by rfl) (hg : Gl X "isinstance" := by rfl)
    (he : starEach (e :: [.Name dd q]) X.env = (false, eval e X.env) :: starEach [.Name dd q] X.env := by rfl) (hpl : (backTo pos (starEach [.Name dd q] X.env)).any (·.1) = false := by rfl) (hs2 : starEach [.Name dd q] X.env = (false, eval (.Name dd q) X.env) :: starEach [] X.env := by rfl) (hdb : (dd == ("__debug__" : Str)) = false := by decide) :
    EE X W (.Call (.Name "isinstance" p) [e, .Name dd q] [] pos) (eIsi (fO cs) m) :=
  ee_isi (fO cs) (.own (He.ga X.K dd)) (fun t b hd hb => by
    obtain ⟨lh, d, hd⟩ := hd
    cases t with
    | b n =>
      cases hb
      exact ⟨ho.1 n (by rcases ty_names hd with z | z | z | z | z | z <;> simp [z]), fun x z => nomatch z⟩
    | c y =>
      have hy : (y, b) ∈ cs := by
        have hb' : cs.lookup y = some b := hb
        clear hb ho
        induction cs with
        | nil => cases hb'
        | cons p cs ih =>
          rw [List.lookup_cons] at hb'
          by_cases z : (y == p.1) = true
          · rw [z] at hb'
            cases hb'
            rw [eq_of_beq z]
            exact List.mem_cons_self
          · rw [Bool.eq_false_iff.mpr z] at hb'
            exact List.mem_cons_of_mem _ (ih hb')
      obtain ⟨k1, k2⟩ := ho.2 _ hy
      exact ⟨k2, fun x z => by cases z; exact k1⟩) h (pe_glob hgx hx rfl hdb) hm hg he hpl hs2
end
/-- as decided on the head -/
def insB (K : PySem.W.Frag) (x : Str) : Bool := He.eqO (PySem.W.findIn K (.ref (He.ga K x)) "__class__") (some (some (.builtin "object.__class__"))) && (He.eqO (PySem.W.specialIn K (.builtin "object.__class__") "__get__") (some (some (.builtin "getset_descriptor.__get__"))) &&
  (decide (PySem.W.takesIn K (.builtin "object.__class__") = some true) && decide (PySem.W.mroIn K (He.ga K x) (.type "object") = some true)))
theorem insB_ok {K : PySem.W.Frag} {x : Str} (c : Cls K (He.ga K x)) (h : insB K x = true) : InsOk K x := by
  unfold insB at h
  obtain ⟨h1, h2⟩ := He.ba h
  obtain ⟨h2, h3⟩ := He.ba h2
  obtain ⟨h3, h4⟩ := He.ba h3
  exact ⟨c, He.eqO_ok h1, He.eqO_ok h2, of_decide_eq_true h3, of_decide_eq_true h4⟩
def ownB (K : PySem.W.Frag) (dd : Str) (cs : List (Str × Bool)) : Bool := (["NoneType", "bool", "int", "str", "tuple", "list"].all fun n => decide (PySem.W.kitOne K (.type n) (.ref (He.ga K dd)) = some false)) && cs.all fun p => insB K p.1 && decide (PySem.W.kitOne K (.ref (He.ga K p.1)) (.ref (He.ga K dd)) = some p.2)
theorem ownB_ok {K : PySem.W.Frag} {dd : Str} {cs : List (Str × Bool)} (hc : ∀ p ∈ cs, Cls K (He.ga K p.1)) (h : ownB K dd cs = true) : OwnIs K dd cs := by
  unfold ownB at h
  obtain ⟨h1, h2⟩ := He.ba h
  refine ⟨fun n hn => of_decide_eq_true (List.all_eq_true.mp h1 n hn), fun p hp => ?_⟩
  obtain ⟨h3, h4⟩ := He.ba (List.all_eq_true.mp h2 p hp)
  exact ⟨insB_ok (hc p hp) h3, of_decide_eq_true h4⟩
theorem kb_int (K : PySem.W.Frag) : ∀ n ∈ ["NoneType", "bool", "int", "str", "tuple", "list"], PySem.W.kitOne K (.type n) (.type "int") = (fB ["int"] (.b n)) := by
  intro n hn
  simp only [List.mem_cons, List.not_mem_nil, or_false] at hn
  rcases hn with rfl | rfl | rfl | rfl | rfl | rfl <;> kernel_rfl
theorem kb_bool (K : PySem.W.Frag) : ∀ n ∈ ["NoneType", "bool", "int", "str", "tuple", "list"], PySem.W.kitOne K (.type n) (.type "bool") = (fB ["bool"] (.b n)) := by
  intro n hn
  simp only [List.mem_cons, List.not_mem_nil, or_false] at hn
  rcases hn with rfl | rfl | rfl | rfl | rfl | rfl <;> kernel_rfl
theorem kb_str (K : PySem.W.Frag) : ∀ n ∈ ["NoneType", "bool", "int", "str", "tuple", "list"], PySem.W.kitOne K (.type n) (.type "str") = (fB ["str"] (.b n)) := by
  intro n hn
  simp only [List.mem_cons, List.not_mem_nil, or_false] at hn
  rcases hn with rfl | rfl | rfl | rfl | rfl | rfl <;> kernel_rfl
theorem kb_tuple (K : PySem.W.Frag) : ∀ n ∈ ["NoneType", "bool", "int", "str", "tuple", "list"], PySem.W.kitOne K (.type n) (.type "tuple") = (fB ["tuple"] (.b n)) := by
  intro n hn
  simp only [List.mem_cons, List.not_mem_nil, or_false] at hn
  rcases hn with rfl | rfl | rfl | rfl | rfl | rfl <;> kernel_rfl
theorem kb_list (K : PySem.W.Frag) : ∀ n ∈ ["NoneType", "bool", "int", "str", "tuple", "list"], PySem.W.kitOne K (.type n) (.type "list") = (fB ["list"] (.b n)) := by
  intro n hn
  simp only [List.mem_cons, List.not_mem_nil, or_false] at hn
  rcases hn with rfl | rfl | rfl | rfl | rfl | rfl <;> kernel_rfl
theorem kb_list_tuple (K : PySem.W.Frag) : ∀ n ∈ ["NoneType", "bool", "int", "str", "tuple", "list"], PySem.W.kitAny K (.type n) [.type "list", .type "tuple"] = (fB ["list", "tuple"] (.b n)) := by
  intro n hn
  simp only [List.mem_cons, List.not_mem_nil, or_false] at hn
  rcases hn with rfl | rfl | rfl | rfl | rfl | rfl <;> kernel_rfl
theorem kb_int_str (K : PySem.W.Frag) : ∀ n ∈ ["NoneType", "bool", "int", "str", "tuple", "list"], PySem.W.kitAny K (.type n) [.type "int", .type "str"] = (fB ["int", "str"] (.b n)) := by
  intro n hn
  simp only [List.mem_cons, List.not_mem_nil, or_false] at hn
  rcases hn with rfl | rfl | rfl | rfl | rfl | rfl <;> kernel_rfl
end Tb

/-! Defs, calls, classes, raise. -/
namespace Tb
open PySem PySem.Spec PyProof.Rows L2

abbrev FM := List D → LH → Res D
def spE (G : Gx) (n : Nat) (f : FM) : Sp := fun vs H Q E => vs.length = n ∧ ∃ A ρ lh ds, VRs G A ρ H vs ds ∧ SR G A ρ H lh ∧ PRg G A ρ H (VR G A) (f ds lh) (fun c H' => E (.ref (He.ga G.K c)) none H') Q
/-- a def with k more names than its parameters -/
def fnM (k : Nat) (b : SM) : FM := fun ds lh => match b (ds.map some ++ List.replicate k none) lh with
  | .nx _ lh => .ok .non lh
  | .rt d lh => .ok d lh
  | .exc c _ lh => .exc c lh
  | .bk _ _ => .stuck
  | .stuck => .stuck
abbrev WD (E : XK) : WX := fun cls d _ H => E cls d H
section
variable {P : Program} {w : World} {K : PySem.W.Frag} {mg : Str → Option Value} {base : Heap} {x qual : Str} {params : Arguments} {body : List Stmt} {scope : Scope} {f : Addr} {fd : FuncData}
theorem start_rel {G : Gx} {A : Addr → Prop} {ρ : List Addr} {H : Hp} {N : List Str} {vs : List V} {ds : List D} {k : Nat} (r : VRs G A ρ H vs ds) (hk : N.length = vs.length + k) : ER G A ρ H (L2.start N vs) (ds.map some ++ List.replicate k none) := by
  have hl := r.length
  refine ⟨by simp [L2.start, hl]; omega, fun i d h => ?_⟩
  by_cases hi : i < ds.length
  · rw [List.getElem?_append_left (by simpa using hi), List.getElem?_map] at h
    cases q : ds[i]? with
    | none => rw [q] at h; cases h
    | some d' =>
      rw [q] at h
      cases h
      obtain ⟨v, h1, h2⟩ := r.get q
      refine ⟨v, ?_, h2⟩
      unfold L2.start
      rw [List.getElem?_append_left (by simp; omega), List.getElem?_map, h1]
      rfl
  · rw [List.getElem?_append_right (by simpa using hi)] at h
    have := List.mem_of_getElem? h
    simp at this
theorem fn_ok {N ps : List Str} {j k n : Nat} (b : SM) (F : FunD K x qual params body scope [] [] f fd) (S : FnScope N ps scope) (hn : ps.length = n) (hk : N.length = n + k)
    (hb : ∀ (cdv : Value) (A : Around) (outer : List Env) (s : Shared) (H : Hp) (E : XK), Room j (A.deeper (envOfC qual scope s.heap.objs.size f cdv)) → ESs (cxOf (L2.CX P w) P w K mg base N qual scope f cdv A outer s H E) (WD E) body b) :
    FnOk P w K mg base (L2.CX P w) (j + 1) f fd ps (spE ⟨P, w, K⟩ n (fnM k b)) :=
  FunD.ok F S (fun vs H Q E h => by rw [h.1, hn]) fun cdv A outer s H vs Q E hr ⟨hl, A', ρ, lh, ds, rs, S', pr⟩ => ⟨_, hb cdv A outer s H E hr, A', ρ, _, lh, start_rel rs (by rw [hl]; exact hk), S', by
    unfold fnM at pr
    cases q : b (ds.map some ++ List.replicate k none) lh with
    | nx τ lh' => rw [q] at pr; exact fun ρ' H' σ' s' S'' e => pr ρ' H' _ s' S'' .non
    | rt d lh' => rw [q] at pr; exact fun ρ' H' v s' S'' r => pr ρ' H' v s' S'' r
    | bk τ lh' => rw [q] at pr; exact pr.elim
    | exc c τ lh' => rw [q] at pr; exact fun ρ' H' σ' s' S'' e => pr ρ' H' s' S''
    | stuck => rw [q] at pr; exact pr.elim⟩
/-- every parameter is given -/
theorem binds_of {ps : List Str} (F : FunD K x qual params body scope [] [] f fd) (h : ∀ (kV doc pm : Value) (an : Option Addr) (cdv ct : Value) (us : List Value), us.length = ps.length → bindArgs (PySem.W.fnOf x qual params body scope .none kV doc pm an cdv ct) ⟨us, []⟩ = pure (ps.zip us)) : Binds K fd ps [] := F.bindsN h
end

/-! ### calls -/
/-- the heap is the callee's, too -/
def eCallS (n : Nat) (f : FM) (m : AM) : EM := fun τ lh => (m τ lh).bind fun ds lh => if ds.length = n then f ds lh else .stuck
/-- only new lists within: as values -/
def frzN (lh : LH) : Nat → D → Option D
  | 0, _ => none
  | n + 1, d => match d with
    | .non => some .non
    | .bl b => some (.bl b)
    | .int i => some (.int i)
    | .str s => some (.str s)
    | .tup ds => (match mapO (frzN lh n) ds with
      | some ks => some (.tup ks)
      | none => none)
    | .loc a => (match lh[a]? with
      | some (.lst ds) => (match mapO (frzN lh n) ds with
        | some ks => some (.lst ks)
        | none => none)
      | _ => none)
    | _ => none
/-- a callee that keeps to itself: run on an empty heap; its result told by value -/
def callP (f : FM) (ds : List D) (lh : LH) : Res D := match mapO (frz [] fuel) ds with
  | some ds' => (match f ds' [] with
    | .ok d lh' => (match frz lh' fuel d with
      | some d' => .ok d' lh
      | none => .stuck)
    | .exc c _ => .exc c lh
    | .stuck => .stuck)
  | none => (match mapO (frz lh fuel) ds with
    | some ds' => (match f ds' [] with
      | .ok d lh' => (match frzN lh' fuel d with
        | some d' => .ok d' lh
        | none => .stuck)
      | .exc c _ => .exc c lh
      | .stuck => .stuck)
    | none => .stuck)
def eCallP (n : Nat) (f : FM) (m : AM) : EM := fun τ lh => (m τ lh).bind fun ds lh => if ds.length = n then callP f ds lh else .stuck
section
variable {G : Gx} {A B : Addr → Prop} {ρ ρ2 : List Addr} {H : Hp} {lh : LH}
/-- a key holds no list -/
theorem key_free : ∀ (m : Nat) {v : V} {d : D} {k : NestedKey}, toKey m d = some k → VR G A ρ H v d → VR G B ρ2 H v d := by
  intro m
  induction m with
  | zero => intro v d k h; cases h
  | succ m ih =>
    have all : ∀ {ds : List D} {vs : List V} {ks : List NestedKey}, mapO (toKey m) ds = some ks → VRs G A ρ H vs ds → VRs G B ρ2 H vs ds := by
      intro ds
      induction ds with
      | nil => intro vs ks _ r; cases r; exact .nil
      | cons d ds ih2 =>
        intro vs ks h r
        cases r with
        | cons r1 r2 =>
          obtain ⟨y, ys, h1, h2, _⟩ := mapO_cons h
          exact .cons (ih h1 r1) (ih2 h2 r2)
    intro v d k h r
    cases r with
    | non => exact .non
    | bl b => exact .bl b
    | int i => exact .int i
    | str s => exact .str s
    | @tup a vs ds q r =>
      simp only [toKey] at h
      cases e : mapO (toKey m) ds with
      | none => rw [e] at h; cases h
      | some ks => exact .tup q (all e r)
    | lst _ _ _ _ => cases h
    | scr _ _ => cases h
    | dic _ _ _ _ => cases h
    | loc _ => cases h
theorem frz_genL (L : ∀ (m : Nat) (a : Addr) (o : LO), ρ[m]? = some a → lh[m]? = some o → OR G A ρ H a o) (h1 : ∀ a o, H a = some o → ¬ A a → a ∉ ρ → ¬ B a ∧ a ∉ ρ2) (h2 : lh ≠ [] → ∀ a, a ∈ ρ → ¬ B a ∧ a ∉ ρ2) : ∀ (n : Nat) {v : V} {d d' : D}, VR G A ρ H v d → frz lh n d = some d' → VR G B ρ2 H v d' := by
  intro n
  induction n with
  | zero => intro v d d' _ h; cases h
  | succ n ih =>
    have all : ∀ {ds : List D} {vs : List V} {ks : List D}, VRs G A ρ H vs ds → mapO (frz lh n) ds = some ks → VRs G B ρ2 H vs ks := by
      intro ds
      induction ds with
      | nil => intro vs ks r h; cases r; cases h; exact .nil
      | cons d ds ih2 =>
        intro vs ks r h
        cases r with
        | cons r1 r2 =>
          obtain ⟨y, ys, e1, e2, rfl⟩ := mapO_cons h
          exact .cons (ih r1 e1) (ih2 r2 e2)
    have dr : ∀ {us : List D} {xs : List DEnt} {ks us' : List D}, DR G A ρ H xs ks us → mapO (frz lh n) us = some us' → DR G B ρ2 H xs ks us' := by
      intro us
      induction us with
      | nil => intro xs ks us' r h; cases r; cases h; exact .nil
      | cons d ds ih2 =>
        intro xs ks us' r h
        cases r with
        | cons e r1 rv r2 t =>
          obtain ⟨y, ys, e1, e2, rfl⟩ := mapO_cons h
          exact .cons e (key_free 8 e r1) rv (ih r2 e1) (ih2 t e2)
    intro v d d' r h
    cases r with
    | non => cases h; exact .non
    | bl b => cases h; exact .bl b
    | int i => cases h; exact .int i
    | str s => cases h; exact .str s
    | @tup a vs ds q r =>
      simp only [frz] at h
      cases e : mapO (frz lh n) ds with
      | none => rw [e] at h; cases h
      | some ks => rw [e] at h; cases h; exact .tup q (all r e)
    | @lst a vs ds q nA nρ r =>
      simp only [frz] at h
      cases e : mapO (frz lh n) ds with
      | none => rw [e] at h; cases h
      | some ks => rw [e] at h; cases h; exact .lst q (h1 _ _ q nA nρ).1 (h1 _ _ q nA nρ).2 (all r e)
    | @scr a vs ds q r =>
      simp only [frz] at h
      cases e : mapO (frz lh n) ds with
      | none => rw [e] at h; cases h
      | some ks =>
        rw [e] at h
        cases h
        refine .scr ?_ (all r e)
        rcases q with ⟨q, q1, q2⟩ | q | q
        · exact .inl ⟨q, h1 _ _ q q1 q2⟩
        · exact .inr (.inl q)
        · exact .inr (.inr q)
    | @dic a xs ks us q nA nρ r =>
      simp only [frz] at h
      cases e : mapO (frz lh n) us with
      | none => rw [e] at h; cases h
      | some ks => rw [e] at h; cases h; exact .dic q (h1 _ _ q nA nρ).1 (h1 _ _ q nA nρ).2 (dr r e)
    | @loc m a q =>
      have hm : a ∈ ρ := List.mem_of_getElem? q
      simp only [frz] at h
      cases e0 : lh[m]? with
      | none => rw [e0] at h; cases h
      | some o =>
        have k2 := L m a o q e0
        have h2 := h2 (by rintro rfl; simp at e0)
        rw [e0] at h
        cases o with
        | lst ds =>
          obtain ⟨vs, k3, k4⟩ := k2
          cases e : mapO (frz lh n) ds with
          | none => simp only [e] at h; cases h
          | some ks => simp only [e] at h; cases h; exact .lst k3 (h2 _ hm).1 (h2 _ hm).2 (all k4 e)
        | dic ks us =>
          obtain ⟨xs, k3, k4⟩ := k2
          cases e : mapO (frz lh n) us with
          | none => simp only [e] at h; cases h
          | some us' => simp only [e] at h; cases h; exact .dic k3 (h2 _ hm).1 (h2 _ hm).2 (dr k4 e)
        | ins _ _ => cases h
theorem SR.at_ (S : SR G A ρ H lh) : ∀ (m : Nat) (a : Addr) (o : LO), ρ[m]? = some a → lh[m]? = some o → OR G A ρ H a o := fun m a o q e => by
  obtain ⟨b, k1, k2⟩ := S.obj m o e
  rw [q] at k1
  cases k1
  exact k2
theorem frz_gen (S : SR G A ρ H lh) (h1 : ∀ a o, H a = some o → ¬ A a → a ∉ ρ → ¬ B a ∧ a ∉ ρ2) (h2 : ∀ a, a ∈ ρ → ¬ B a ∧ a ∉ ρ2) : ∀ (n : Nat) {v : V} {d d' : D}, VR G A ρ H v d → frz lh n d = some d' → VR G B ρ2 H v d' := frz_genL S.at_ h1 fun _ => h2
theorem frzN_gen (S : SR G A ρ H lh) (h2 : ∀ a, a ∈ ρ → ¬ B a ∧ a ∉ ρ2) : ∀ (n : Nat) {v : V} {d d' : D}, VR G A ρ H v d → frzN lh n d = some d' → VR G B ρ2 H v d' := by
  intro n
  induction n with
  | zero => intro v d d' _ h; cases h
  | succ n ih =>
    have all : ∀ {ds : List D} {vs : List V} {ks : List D}, VRs G A ρ H vs ds → mapO (frzN lh n) ds = some ks → VRs G B ρ2 H vs ks := by
      intro ds
      induction ds with
      | nil => intro vs ks r h; cases r; cases h; exact .nil
      | cons d ds ih2 =>
        intro vs ks r h
        cases r with
        | cons r1 r2 =>
          obtain ⟨y, ys, e1, e2, rfl⟩ := mapO_cons h
          exact .cons (ih r1 e1) (ih2 r2 e2)
    intro v d d' r h
    cases r with
    | non => cases h; exact .non
    | bl b => cases h; exact .bl b
    | int i => cases h; exact .int i
    | str s => cases h; exact .str s
    | @tup a vs ds q r =>
      simp only [frzN] at h
      cases e : mapO (frzN lh n) ds with
      | none => rw [e] at h; cases h
      | some ks => rw [e] at h; cases h; exact .tup q (all r e)
    | lst _ _ _ _ => cases h
    | scr _ _ => cases h
    | dic _ _ _ _ => cases h
    | @loc m a q =>
      have hm : a ∈ ρ := List.mem_of_getElem? q
      simp only [frzN] at h
      cases e0 : lh[m]? with
      | none => rw [e0] at h; cases h
      | some o =>
        obtain ⟨b, k1, k2⟩ := S.obj m o e0
        rw [q] at k1
        cases k1
        rw [e0] at h
        cases o with
        | lst ds =>
          obtain ⟨vs, k3, k4⟩ := k2
          cases e : mapO (frzN lh n) ds with
          | none => simp only [e] at h; cases h
          | some ks => simp only [e] at h; cases h; exact .lst k3 (h2 _ hm).1 (h2 _ hm).2 (all k4 e)
        | dic ks us => cases h
        | ins _ _ => cases h
theorem all_gen {f : D → Option D} (h : ∀ {v : V} {d d' : D}, VR G A ρ H v d → f d = some d' → VR G B ρ2 H v d') : ∀ {vs : List V} {ds ks : List D}, VRs G A ρ H vs ds → mapO f ds = some ks → VRs G B ρ2 H vs ks
  | _, [], _, r, e => by cases r; cases e; exact .nil
  | _, d :: ds, _, .cons r1 r2, e => by
    obtain ⟨y, ys, e1, e2, rfl⟩ := mapO_cons e
    exact .cons (h r1 e1) (all_gen h r2 e2)
/-- an empty logical heap, other addresses barred -/
theorem SR.none_ {B : Addr → Prop} (h : ∀ a, B a → ∃ o, H a = some o) : SR G B [] H [] := ⟨rfl, List.nodup_nil, h, fun n o e => by simp at e⟩
/-- a step of a callee that has nothing of ours -/
theorem Stp.widen {ρ' : List Addr} {H' : Hp} (s : Stp [] H ρ' H') (ρ : List Addr) : Stp ρ H ρ H' := ⟨⟨[], by simp, fun _ z => absurd z (by simp)⟩, fun a o h _ => s.frm a o h (by simp), s.tup, s.frz, fun a o h => ⟨o, s.frm a o h (by simp)⟩⟩
theorem SR.widen {ρ' : List Addr} {H' : Hp} (S : SR G A ρ H lh) (s : Stp [] H ρ' H') : SR G A ρ H' lh := ⟨S.len, S.nd, fun a z => by obtain ⟨o, e⟩ := S.av a z; exact ⟨o, s.frm a o e (by simp)⟩, fun n o e => by
  obtain ⟨a, h1, h2⟩ := S.obj n o e
  exact ⟨a, h1, h2.stp (s.widen ρ) fun u z => s.frm a u z (by simp)⟩⟩
theorem Stp.new_ {ρ' : List Addr} {H' : Hp} (s : Stp [] H ρ' H') (S : SR G A ρ H lh) : ∀ a, a ∈ ρ' → ¬ A a ∧ a ∉ ρ := fun a ha => by
  obtain ⟨r, e, hn⟩ := s.pre
  rw [List.nil_append] at e
  rw [e] at ha
  exact ⟨S.notA (hn a ha), S.fresh (hn a ha)⟩
theorem callP_rel {f : FM} {vs : List V} {ds : List D} {V' : Str → Hp → Prop} {Q : VK} (S : SR G A ρ H lh) (r : VRs G A ρ H vs ds) (h : PRg G A ρ H (VR G A) (callP f ds lh) V' Q) :
    ∃ A' ρ' lh' ds', VRs G A' ρ' H vs ds' ∧ SR G A' ρ' H lh' ∧ PRg G A' ρ' H (VR G A') (f ds' lh') V' Q := by
  unfold callP at h
  cases q : mapO (frz [] fuel) ds with
  | some ds' =>
    simp only [q] at h
    have S0 : SR G (fun a => A a ∨ a ∈ ρ) [] H [] := SR.none_ fun a z => z.elim (S.av a) fun z => by obtain ⟨u, e, _⟩ := S.mut z; exact ⟨u, e⟩
    have r0 : VRs G (fun a => A a ∨ a ∈ ρ) [] H vs ds' := all_gen (fun r e => frz_genL (lh := []) (fun m a o _ z => by simp at z) (fun a o ho n1 n2 => ⟨fun z => z.elim n1 n2, by simp⟩) (fun z => absurd rfl z) _ r e) r q
    refine ⟨fun a => A a ∨ a ∈ ρ, [], [], ds', r0, S0, ?_⟩
    cases e : f ds' [] with
    | ok d lh' =>
      simp only [e] at h
      intro ρ' H' v s S' rv
      cases e2 : frz lh' fuel d with
      | none => simp only [e2] at h; exact h.elim
      | some d' =>
        simp only [e2] at h
        exact h ρ H' v (s.widen ρ) (S.widen s) (frz_gen S' (fun a o ho n1 n2 => ⟨fun z => n1 (.inl z), fun z => n1 (.inr z)⟩) (s.new_ S) _ rv e2)
    | exc c lh' =>
      simp only [e] at h
      exact fun ρ' H' s S' => h ρ H' (s.widen ρ) (S.widen s)
    | stuck => simp only [e] at h; exact h.elim
  | none =>
    simp only [q] at h
    cases q2 : mapO (frz lh fuel) ds with
    | none => simp only [q2] at h; exact h.elim
    | some ds' =>
      simp only [q2] at h
      have S0 : SR G (fun a => A a ∧ a ∉ ρ) [] H [] := SR.none_ fun a z => S.av a z.1
      have r0 : VRs G (fun a => A a ∧ a ∉ ρ) [] H vs ds' := all_gen (fun r e => frz_gen S (fun a o ho n1 n2 => ⟨fun z => n1 z.1, by simp⟩) (fun a ha => ⟨fun z => z.2 ha, by simp⟩) _ r e) r q2
      refine ⟨fun a => A a ∧ a ∉ ρ, [], [], ds', r0, S0, ?_⟩
      cases e : f ds' [] with
      | ok d lh' =>
        simp only [e] at h
        intro ρ' H' v s S' rv
        cases e2 : frzN lh' fuel d with
        | none => simp only [e2] at h; exact h.elim
        | some d' =>
          simp only [e2] at h
          exact h ρ H' v (s.widen ρ) (S.widen s) (frzN_gen S' (s.new_ S) _ rv e2)
      | exc c lh' =>
        simp only [e] at h
        exact fun ρ' H' s S' => h ρ H' (s.widen ρ) (S.widen s)
      | stuck => simp only [e] at h; exact h.elim
end

section
variable {X : Cx} {W : WX} {k n : Nat} {f C : Addr} {fd : FuncData} {ps : List Str} {x m : Str} {p pos apos : Pos} {e o : Expr} {es : List Expr} {ma : AM} {mo : EM} {fm : FM}
/-- f(e, ..), an own def -/
theorem ee_callS (tk : Takes X W) (F : FnOk X.prog X.w X.K X.mg X.base (L2.CX X.prog X.w) k f fd ps (spE (gx X) n fm)) (hr : Room k X.A) (hm : X.mg x = some (.ref f)) (hk : PySem.W.keepIn X.K (.ref f) = true) (hb : Binds X.K fd ps []) (ha : EA X W (e :: es) ma) (hg : Gl X x := by rfl)
    (hdb : (x == ("__debug__" : Str)) = false := by decide) (he : starEach (e :: es) X.env = (false, eval e X.env) :: starEach es X.env := by rfl) (hpl : (backTo pos (starEach es X.env)).any (·.1) = false := by rfl) : EE X W (.Call (.Name x p) (e :: es) [] pos) (eCallS n fm ma) :=
  peImp (pe_callS (E := WE W) F hr hg hm hk hb (fun σ => passAt tk σ) ha hdb he hpl) fun σ H Q ⟨A, ρ, τ, lh, er, S, pr⟩ => ⟨A, ρ, τ, lh, er, S, PRg.thn pr fun ds lh1 ρ1 H1 xs s1 S1 r1 pr1 => by
    by_cases hn : ds.length = n
    · rw [if_pos hn] at pr1
      exact ⟨by rw [r1.length]; exact hn, A, ρ1, lh1, ds, r1, S1, pr1⟩
    · rw [if_neg hn] at pr1
      exact pr1.elim⟩
theorem ee_callP (tk : Takes X W) (F : FnOk X.prog X.w X.K X.mg X.base (L2.CX X.prog X.w) k f fd ps (spE (gx X) n fm)) (hr : Room k X.A) (hm : X.mg x = some (.ref f)) (hk : PySem.W.keepIn X.K (.ref f) = true) (hb : Binds X.K fd ps []) (ha : EA X W (e :: es) ma) (hg : Gl X x := by rfl)
    (hdb : (x == ("__debug__" : Str)) = false := by decide) (he : starEach (e :: es) X.env = (false, eval e X.env) :: starEach es X.env := by rfl) (hpl : (backTo pos (starEach es X.env)).any (·.1) = false := by rfl) : EE X W (.Call (.Name x p) (e :: es) [] pos) (eCallP n fm ma) :=
  peImp (pe_callS (E := WE W) F hr hg hm hk hb (fun σ => passAt tk σ) ha hdb he hpl) fun σ H Q ⟨A, ρ, τ, lh, er, S, pr⟩ => ⟨A, ρ, τ, lh, er, S, PRg.thn pr fun ds lh1 ρ1 H1 xs s1 S1 r1 pr1 => by
    by_cases hn : ds.length = n
    · rw [if_pos hn] at pr1
      obtain ⟨A', ρ', lh', ds', r', S', pr'⟩ := callP_rel S1 r1 pr1
      exact ⟨by rw [r1.length]; exact hn, A', ρ', lh', ds', r', S', pr'⟩
    · rw [if_neg hn] at pr1
      exact pr1.elim⟩
end

/-! ### instances: made, fields set, methods -/
def putD (f : Str) (v : D) : List (Str × D) → List (Str × D)
  | [] => [(f, v)]
  | (g, x) :: r => if g = f then (g, v) :: r else (g, x) :: putD f v r
theorem put_fr {G : Gx} {A : Addr → Prop} {ρ : List Addr} {H : Hp} {f : Str} {v : V} {d : D} (h : VR G A ρ H v d) : ∀ {gs : List (Str × V)} {fs : List (Str × D)}, FR G A ρ H gs fs → FR G A ρ H (putF f v gs) (putD f d fs)
  | _, _, .nil => .cons h .nil
  | _, _, .cons (f := g) q r => by
    unfold putF putD
    by_cases e : g = f
    · rw [if_pos e, if_pos e]; exact .cons h r
    · rw [if_neg e, if_neg e]; exact .cons q (put_fr h r)
theorem FR.length {G : Gx} {A : Addr → Prop} {ρ : List Addr} {H : Hp} : ∀ {gs : List (Str × V)} {fs : List (Str × D)}, FR G A ρ H gs fs → gs.length = fs.length
  | _, _, .nil => rfl
  | _, _, .cons _ r => by rw [List.length_cons, List.length_cons, FR.length r]
/-- o.f = e: the value first -/
def sFldM (cs : List Str) (f : Str) (m mo : EM) : SM := fun τ lh => (m τ lh).toS τ fun v lh => (mo τ lh).toS τ fun d lh => match insAt lh d with
  | some (n, c, fs) => if cs.contains c = true ∧ fs.length < 1000 then .nx τ (lh.set n (.ins c (putD f v fs))) else .stuck
  | none => .stuck
/-- a new instance, then __init__ -/
def eMake (c : Str) (n : Nat) (f : FM) (m : AM) : EM := fun τ lh => (m τ lh).bind fun ds lh => if ds.length + 1 = n then (match f (.loc lh.length :: ds) (lh ++ [.ins c []]) with
  | .ok .non lh' => .ok (.loc lh.length) lh'
  | .exc c lh => .exc c lh
  | _ => .stuck) else .stuck
/-- o.m(e, ..): the instance's class tells the def -/
def eMeth (ms : List (Str × FM)) (mn : Str) (n : Nat) (mo : EM) (m : AM) : EM := fun τ lh => (mo τ lh).bind fun d lh => match insAt lh d with
  | some (_, c, fs) => if (fs.lookup mn).isNone = true then (match ms.lookup c with
    | some f => (m τ lh).bind fun ds lh => if ds.length + 1 = n then f (d :: ds) lh else .stuck
    | none => .stuck) else .stuck
  | none => .stuck
section
variable {X : Cx} {W : WX} {k n : Nat} {f C : Addr} {fd : FuncData} {ps : List Str} {x m : Str} {p pos apos pos' : Pos} {e o value : Expr} {es : List Expr} {ma : AM} {mo mv : EM} {fm : FM}
theorem es_fld {f : Str} (cs : List Str) (hc : ∀ c ∈ cs, Cls X.K (He.ga X.K c) ∧ NoAttr X.K (He.ga X.K c) f) (ho : EE X W o mo) (hv : EE X W value mv) (hs : swapsWith value (some (.Attribute o f pos')) pos.line X.env = pure false := by rfl) : ES X W (.Assign [.Attribute o f pos'] value pos) (sFldM cs f mv mo) :=
  psImp (ps_fld ho hv hs) fun E σ H ⟨A, ρ, τ, lh, er, S, pr⟩ => ⟨A, ρ, τ, lh, er, S, PSR.thn er pr fun v lh1 ρ1 H1 y s1 S1 r1 pr1 => ⟨A, ρ1, τ, lh1, er.stp s1, S1, PSR.thn (er.stp s1) pr1 fun d lh2 ρ2 H2 z s2 S2 r2 pr2 => by
    cases q : insAt lh2 d with
    | none => simp only [q] at pr2; exact pr2.elim
    | some t =>
      obtain ⟨n, c, fs⟩ := t
      simp only [q] at pr2
      by_cases hq : cs.contains c = true ∧ fs.length < 1000
      · rw [if_pos hq] at pr2
        obtain ⟨a, dx, gs, rfl, rfl, hn, hl, ha, hf⟩ := ins_rel S2 r2 q
        obtain ⟨k1, k2⟩ := hc c (by simpa using hq.1)
        obtain ⟨u, hu, mu⟩ := S2.mut (List.mem_of_getElem? hn)
        have st : Stp ρ2 H2 ρ2 (upd H2 a (.ins (He.ga X.K c) dx (putF f y gs))) := stp_set hn hu mu
        exact ⟨a, _, dx, gs, rfl, ha, k1, k2, by rw [hf.length]; exact hq.2, pr2 ρ2 _ σ st (S2.set hn ⟨dx, _, upd_same, (put_fr (r1.stp s2) hf).stp st⟩) (((er.stp s1).stp s2).stp st)⟩
      · rw [if_neg hq] at pr2
        exact pr2.elim⟩⟩
theorem make_rel {G : Gx} {A : Addr → Prop} {ρ : List Addr} {H : Hp} {lh : LH} {c : Str} {a dx : Addr} (S : SR G A ρ H lh) (ha : H a = none) (hd : H dx = none) (hne : dx ≠ a) :
    Stp ρ H (ρ ++ [a]) (upd (upd H dx (.own a)) a (.ins (He.ga G.K c) dx [])) ∧ SR G A (ρ ++ [a]) (upd (upd H dx (.own a)) a (.ins (He.ga G.K c) dx [])) (lh ++ [.ins c []]) := by
  have h2 : (upd H dx (.own a)) a = none := by rw [upd_ne (Ne.symm hne)]; exact ha
  have S2 := S.new (o := .own a) hd
  exact ⟨(stp_new (ρ := ρ) (o := .own a) hd).trans (stp_loc h2), S2.newLoc h2 ⟨dx, [], upd_same, .nil⟩⟩
theorem ee_make (tk : Takes X W) (M : Mk X.K (He.ga X.K x) f) (F : FnOk X.prog X.w X.K X.mg X.base (L2.CX X.prog X.w) k f fd ps (spE (gx X) n fm)) (hr : Room (k + 1) X.A) (hm : X.mg x = some (.ref (He.ga X.K x))) (hb : Binds X.K fd ps []) (ha : EA X W (e :: es) ma)
    (hW : ∀ c σ σ' H, W c none σ H → W c none σ' H := by intro _ _ _ _ h; exact h) (hg : Gl X x := by rfl)
    (hdb : (x == ("__debug__" : Str)) = false := by decide) (he : starEach (e :: es) X.env = (false, eval e X.env) :: starEach es X.env := by rfl) (hpl : (backTo pos (starEach es X.env)).any (·.1) = false := by rfl) : EE X W (.Call (.Name x p) (e :: es) [] pos) (eMake x n fm ma) :=
  peImp (pe_make (E := fun cls d H => ∀ σ, W cls d σ H) M F hr hg hm hb (dvs := []) .nil (passes_call tk fun cls d σ H h => h σ) ha hdb he hpl) fun σ H Q ⟨A, ρ, τ, lh, er, S, pr⟩ => ⟨A, ρ, τ, lh, er, S, PRg.thn pr fun ds lh1 ρ1 H1 xs s1 S1 r1 pr1 => by
    intro a dx h1 h2 h3
    by_cases hn : ds.length + 1 = n
    · rw [if_pos hn] at pr1
      obtain ⟨t1, t2⟩ := make_rel (c := x) S1 h1 h2 h3
      have el : ρ1.length = lh1.length := S1.len
      have eL : (ρ1 ++ [a])[lh1.length]? = some a := by rw [← el]; simp
      rw [List.append_nil]
      refine ⟨by rw [List.length_cons, r1.length]; exact hn, A, _, _, .loc lh1.length :: ds, .cons (.loc eL) (r1.stp t1), t2, ?_⟩
      have e0 : (gx X).K = X.K := rfl
      cases q : fm (.loc lh1.length :: ds) (lh1 ++ [.ins x []]) with
      | ok d lh2 =>
        rw [q] at pr1
        cases d with
        | non =>
          intro ρ2 H2 b s2 S2 r2
          cases r2
          exact ⟨rfl, pr1 ρ2 H2 _ (t1.trans s2) S2 (.loc (s2.get eL))⟩
        | _ => exact pr1.elim
      | exc c lh2 =>
        rw [q] at pr1
        exact fun ρ2 H2 s2 S2 σ' => hW _ _ _ _ (pr1 ρ2 H2 (t1.trans s2) S2)
      | stuck => rw [q] at pr1; exact pr1.elim
    · rw [if_neg hn] at pr1
      exact pr1.elim⟩
end
end Tb

/-! Methods, raise, list(range), sorted. -/
namespace Tb
open PySem PySem.Spec PyProof.Rows L2

/-- o.m(e, ..), no exception of o -/
def eMethM (ms : List (Str × FM)) (mn : Str) (n : Nat) (mo : EM) (m : AM) : EM := fun τ lh => match mo τ lh with
  | .ok d lh => (match insAt lh d with
    | some (_, c, fs) => if (fs.lookup mn).isNone = true then (match ms.lookup c with
      | some f => (m τ lh).bind fun ds lh => if ds.length + 1 = n then f (d :: ds) lh else .stuck
      | none => .stuck) else .stuck
    | none => .stuck)
  | _ => .stuck
def MethOk (X : Cx) (m : Str) (n : Nat) (c : Str) (fm : FM) : Prop := ∃ (f : Addr) (fd : FuncData) (ps : List Str) (k : Nat), Cls X.K (He.ga X.K c) ∧ Meth X.K (He.ga X.K c) m f ∧ FnOk X.prog X.w X.K X.mg X.base (L2.CX X.prog X.w) k f fd ps (spE (gx X) n fm) ∧ Room k X.A ∧ Binds X.K fd ps []
theorem lookup_mem {α : Type} {x : Str} {v : α} : ∀ {l : List (Str × α)}, l.lookup x = some v → (x, v) ∈ l
  | [], h => by cases h
  | p :: l, h => by
    rw [List.lookup_cons] at h
    by_cases z : (x == p.1) = true
    · rw [z] at h
      cases h
      rw [eq_of_beq z]
      exact List.mem_cons_self
    · rw [Bool.eq_false_iff.mpr z] at h
      exact List.mem_cons_of_mem _ (lookup_mem h)
section
variable {X : Cx} {W : WX} {n : Nat} {x m : Str} {p pos apos p2 : Pos} {e o : Expr} {es : List Expr} {ma : AM} {mo : EM} {j : Nat}
theorem ee_meth (ms : List (Str × FM)) (tk : Takes X W) (hms : ∀ q ∈ ms, MethOk X m n q.1 q.2) (ho : EE X W o mo) (ha : EA X W (e :: es) ma)
    (hW : ∀ c σ σ' H, W c none σ H → W c none σ' H := by intro _ _ _ _ h; exact h) {pl : Sem Bool}
    (hst : starEach (e :: es) X.env = (false, eval e X.env) :: starEach es X.env := by rfl) (hpl : (backTo pos (starEach es X.env)).any (·.1) = false := by rfl)
    (ht : eval (.Call (.Attribute o m apos) (e :: es) [] pos) X.env = (do
      let ov ← eval o X.env
      standAt apos.atName
      let (f, first) ← holding [ov] (getMethod ov m pl)
      callWith pos f first (backTo pos (starEach (e :: es) X.env)) (backToKw pos (keywordEach [] X.env))) := by rfl) : EE X W (.Call (.Attribute o m apos) (e :: es) [] pos) (eMethM ms m n mo ma) :=
  ⟨fun pins s σ H Q I ⟨A, ρ, τ, lh, er, S, pr⟩ => by
    unfold eMethM at pr
    cases q : mo τ lh with
    | exc _ _ => simp only [q] at pr; exact pr.elim
    | stuck => simp only [q] at pr; exact pr.elim
    | ok d lh1 =>
      simp only [q] at pr
      cases qi : insAt lh1 d with
      | none => simp only [qi] at pr; exact pr.elim
      | some t =>
        obtain ⟨ix, c, fs⟩ := t
        simp only [qi] at pr
        by_cases hl : (fs.lookup m).isNone = true
        · rw [if_pos hl] at pr
          cases qm : ms.lookup c with
          | none => simp only [qm] at pr; exact pr.elim
          | some fm =>
            simp only [qm] at pr
            obtain ⟨f, fd, ps, k, hc, hm, F, hr, hb⟩ := hms _ (lookup_mem qm)
            refine (pe_meth (pl := pl) (E := fun cls d H => ∀ σ, W cls d σ H) (dvs := []) ho hc hm F hr hb .nil (passes_call tk fun cls d σ H h => h σ) ha hst hpl ht).run pins s σ H Q I ⟨A, ρ, τ, lh, er, S, ?_⟩
            refine PRg.get q fun ρ1 H1 v s1 S1 r1 => ?_
            obtain ⟨a, dx, gs, rfl, rfl, hn, hlh, hH, hf⟩ := ins_rel S1 r1 qi
            have hno : gs.lookup m = none := hf.lookupN (by simpa using hl)
            refine ⟨a, dx, gs, rfl, hH, hno, A, ρ1, τ, lh1, er.stp s1, S1, ?_⟩
            have pr1 := PRg.stp s1 pr
            refine PRg.thn pr1 fun ds lh2 ρ2 H2 vs s2 S2 r2 pr2 => ?_
            by_cases hn2 : ds.length + 1 = n
            · rw [if_pos hn2] at pr2
              rw [List.append_nil]
              refine ⟨by rw [List.length_cons, r2.length]; exact hn2, A, ρ2, lh2, _ :: ds, .cons (r1.stp s2) r2, S2, ?_⟩
              show PRg (gx X) A ρ2 H2 (VR (gx X) A) (fm (.loc ix :: ds) lh2) _ Q
              cases qf : fm (.loc ix :: ds) lh2 with
              | ok d2 lh3 => rw [qf] at pr2; exact pr2
              | exc c2 lh3 => rw [qf] at pr2; exact fun ρ3 H3 s3 S3 σ' => hW _ _ _ _ (pr2 ρ3 H3 s3 S3)
              | stuck => rw [qf] at pr2; exact pr2.elim
            · rw [if_neg hn2] at pr2
              exact pr2.elim
        · rw [if_neg hl] at pr
          exact pr.elim⟩
theorem ee_meth0 (ms : List (Str × FM)) (tk : Takes X W) (hms : ∀ q ∈ ms, MethOk X m n q.1 q.2) (ho : EE X W o mo)
    (hW : ∀ c σ σ' H, W c none σ H → W c none σ' H := by intro _ _ _ _ h; exact h) {pl : Sem Bool}
    (ht : eval (.Call (.Attribute o m apos) [] [] pos) X.env = (do
      let ov ← eval o X.env
      standAt apos.atName
      let (f, first) ← holding [ov] (getMethod ov m pl)
      callWith pos f first (backTo pos (starEach [] X.env)) (backToKw pos (keywordEach [] X.env))) := by rfl) : EE X W (.Call (.Attribute o m apos) [] [] pos) (eMethM ms m n mo aNil) :=
  ⟨fun pins s σ H Q I ⟨A, ρ, τ, lh, er, S, pr⟩ => by
    unfold eMethM at pr
    cases q : mo τ lh with
    | exc _ _ => simp only [q] at pr; exact pr.elim
    | stuck => simp only [q] at pr; exact pr.elim
    | ok d lh1 =>
      simp only [q] at pr
      cases qi : insAt lh1 d with
      | none => simp only [qi] at pr; exact pr.elim
      | some t =>
        obtain ⟨ix, c, fs⟩ := t
        simp only [qi] at pr
        by_cases hl : (fs.lookup m).isNone = true
        · rw [if_pos hl] at pr
          cases qm : ms.lookup c with
          | none => simp only [qm] at pr; exact pr.elim
          | some fm =>
            simp only [qm] at pr
            obtain ⟨f, fd, ps, k, hc, hm, F, hr, hb⟩ := hms _ (lookup_mem qm)
            refine (pe_meth0 (pl := pl) (E := fun cls d H => ∀ σ, W cls d σ H) (dvs := []) ho hc hm F hr hb .nil (passes_call tk fun cls d σ H h => h σ) ht).run pins s σ H Q I ⟨A, ρ, τ, lh, er, S, ?_⟩
            refine PRg.get q fun ρ1 H1 v s1 S1 r1 => ?_
            obtain ⟨a, dx, gs, rfl, rfl, hn, hlh, hH, hf⟩ := ins_rel S1 r1 qi
            have hno : gs.lookup m = none := hf.lookupN (by simpa using hl)
            refine ⟨a, dx, gs, rfl, hH, hno, ?_⟩
            have pr1 := PRg.stp s1 pr
            have pr2 : PRg (gx X) A ρ1 H1 (VR (gx X) A) (if ([] : List D).length + 1 = n then fm [.loc ix] lh1 else .stuck) (wAt (gx X) W σ) Q := pr1
            show spE (gx X) n fm [.ref a] H1 Q (fun cls d H => ∀ σ, W cls d σ H)
            by_cases hn2 : ([] : List D).length + 1 = n
            · rw [if_pos hn2] at pr2
              refine ⟨hn2, A, ρ1, lh1, [.loc ix], .cons r1 .nil, S1, ?_⟩
              show PRg (gx X) A ρ1 H1 (VR (gx X) A) (fm [.loc ix] lh1) _ Q
              cases qf : fm [.loc ix] lh1 with
              | ok d2 lh3 => rw [qf] at pr2; exact pr2
              | exc c2 lh3 => rw [qf] at pr2; exact fun ρ3 H3 s3 S3 σ' => hW _ _ _ _ (pr2 ρ3 H3 s3 S3)
              | stuck => rw [qf] at pr2; exact pr2.elim
            · rw [if_neg hn2] at pr2
              exact pr2.elim
        · rw [if_neg hl] at pr
          exact pr.elim⟩
/-- raise X('..') -/
def sRaise (x : Str) : SM := fun τ lh => .exc x τ lh
theorem es_raise (hc : X.calm = true) (tk : Takes X W) (q : PySem.W.excIn X.K (He.ga X.K x) He.veBase "ValueError.__new__" = true) (gC : X.mg x = some (.ref (He.ga X.K x))) (kC : PySem.W.keepIn X.K (.ref (He.ga X.K x)) = true)
    (h1 : PySem.W.subIn X.K (.ref (He.ga X.K x)) (.type "BaseException") = some true) (h2 : PySem.W.typeIn X.K (.ref (He.ga X.K x)) = some (.type "type")) (hg : Gl X x := by rfl) (hdb : (x == ("__debug__" : Str)) = false := by decide) :
    ES X W (.Raise (some (.Call (.Name x p) [.Constant (.str m) j p2] [] pos)) none apos) (sRaise x) :=
  psImp (ps_raise hc tk (pmk_own PySem.F.excBase_ValueError q gC kC (raises_own h1 h2) hg hdb)) fun E σ H ⟨A, ρ, τ, lh, er, S, pr⟩ => pr ρ H σ (Stp.refl _ _) S er
end

/-! ### list(range(n)) -/
def eLisRng (al : Bool) (m : EM) : EM := fun τ lh => (m τ lh).bind fun d lh => match d with
  | .int j => if -(2 ^ 62) ≤ j ∧ j ≤ 2 ^ 24 then (Ro.l (intsD 0 j.toNat)).res al lh else .stuck
  | _ => .stuck
theorem rgV_rel {G : Gx} {A : Addr → Prop} {ρ : List Addr} {H : Hp} (n : Nat) : ∀ lo : Int, VRs G A ρ H ((List.range n).map fun i => V.int (lo + (i : Nat))) (intsD lo n) := by
  unfold intsD
  have : ∀ (l : List Nat) (lo : Int), VRs G A ρ H (l.map fun i => V.int (lo + (i : Nat))) (l.map fun i => D.int (lo + (i : Nat))) := by
    intro l
    induction l with
    | nil => intro lo; exact .nil
    | cons a l ih => intro lo; exact .cons (.int _) (ih lo)
  exact this _
section
variable {X : Cx} {W : WX} {e : Expr} {m : EM} {p p2 pos pos2 : Pos}
theorem ee_lisRng (al : Bool) (hc : X.calm = true) (h : EE X W e m) (hm : X.mg "list" = none) (hm2 : X.mg "range" = none) (hg : Gl X "list" := by rfl) (hg2 : Gl X "range" := by rfl) (na : starEach [e] X.env = (false, eval e X.env) :: starEach [] X.env := by rfl)
    (na2 : starEach [.Call (.Name "range" p2) [e] [] pos2] X.env = (false, eval (.Call (.Name "range" p2) [e] [] pos2) X.env) :: starEach [] X.env := by rfl) : EE X W (.Call (.Name "list" p) [.Call (.Name "range" p2) [e] [] pos2] [] pos) (eLisRng al m) :=
  peImp (pe_listRg hc hg hm (prg_1 hg2 hm2 h na) na2) fun σ H Q ⟨A, ρ, τ, lh, er, S, pr⟩ => ⟨A, ρ, τ, lh, er, S, PRg.thn pr fun d lh1 ρ1 H1 x s1 S1 r1 pr1 => by
    cases r1 with
    | int j =>
      simp only at pr1
      split at pr1
      · rename_i hj
        refine ⟨j, rfl, ⟨by omega, by omega, hj.1, by omega, by omega⟩, ?_⟩
        have e0 : rgV 0 j = (List.range j.toNat).map fun i => V.int (0 + (i : Nat)) := by unfold rgV; rw [Int.sub_zero]
        rw [e0]
        exact PRo.new (PRo.of pr1) S1 (rgV_rel _ 0)
      · exact pr1.elim
    | _ => exact pr1.elim⟩
end

/-! ### sorted -/
section
variable {α : Type} (le : α → α → Bool)
def insS (a : α) : List α → List α
  | [] => [a]
  | b :: l => if le a b = true then a :: b :: l else b :: insS a l
def isort : List α → List α
  | [] => []
  | a :: l => insS le a (isort l)
theorem insS_app {le : α → α → Bool} (a : α) : ∀ (l1 l2 : List α), (∀ b ∈ l1, (!le a b) = true) → (∀ b, l2.head? = some b → le a b = true) → insS le a (l1 ++ l2) = l1 ++ a :: l2
  | [], [], _, _ => rfl
  | [], b :: l2, _, h => by
    show insS le a (b :: l2) = a :: b :: l2
    unfold insS
    rw [if_pos (h b rfl)]
  | b :: l1, l2, h, h2 => by
    show insS le a (b :: (l1 ++ l2)) = b :: (l1 ++ a :: l2)
    unfold insS
    have := h b List.mem_cons_self
    rw [if_neg (by simpa using this), insS_app a l1 l2 (fun c hc => h c (List.mem_cons_of_mem _ hc)) h2]
theorem isort_eq {le : α → α → Bool} (trans : ∀ a b c, le a b = true → le b c = true → le a c = true) (total : ∀ a b, (le a b || le b a) = true) : ∀ l : List α, l.mergeSort le = isort le l
  | [] => by simp [isort]
  | a :: l => by
    obtain ⟨l1, l2, h1, h2, h3⟩ := List.mergeSort_cons (le := le) trans total a l
    have hs : (List.mergeSort (a :: l) le).Pairwise (fun a b => le a b = true) := List.pairwise_mergeSort (fun a b c => trans a b c) (fun a b => total a b) _
    rw [h1] at hs ⊢
    unfold isort
    rw [← isort_eq trans total l, h2]
    refine (insS_app a l1 l2 h3 fun b hb => ?_).symm
    have hs2 := (List.pairwise_append.mp hs).2.1
    cases l2 with
    | nil => cases hb
    | cons c l2 =>
      cases hb
      exact (List.pairwise_cons.mp hs2).1 _ List.mem_cons_self
end
def leP (a b : D × PyData) : Bool := PySem.W.dataLe false (fun x : D × PyData => x.2) a b
def tupNe : PyData → Bool
  | .tuple (_ :: _) => true
  | _ => false
def othB : PyData → Bool
  | .none => false
  | .tuple _ => false
  | _ => true
def sortG (lh : LH) (ds : List D) : Ro := match ds with
  | [d] => (match asL lh d with
    | some xs => (match mapO (toP lh fuel) xs with
      | some ps => if ((ps.all fun p => ps.all fun q => PySem.W.alike p q) && ((ps.all tupNe || ps.all othB) && (decide (xs.length ≤ sizeLine) && ps.all fun p => decide (p.depth ≤ 64)))) = true then .l ((isort leP (xs.zip ps)).map (·.1)) else .no
      | none => .no)
    | none => .no)
  | _ => .no
theorem tri {G : Gx} {A : Addr → Prop} {ρ : List Addr} {H : Hp} (n : Nat) (lh : LH) (Pd : V → PyData → Prop) (hP : ∀ {v : V} {d : D} {p : PyData}, VR G A ρ H v d → toP lh n d = some p → Pd v p) : ∀ {vs : List V} {ds : List D} {ps : List PyData}, VRs G A ρ H vs ds → mapO (toP lh n) ds = some ps →
    ∃ bs : List (V × D × PyData), bs.map (·.1) = vs ∧ bs.map (fun b => (b.2.1, b.2.2)) = ds.zip ps ∧ bs.map (fun b => b.2.2) = ps ∧ ∀ b ∈ bs, VR G A ρ H b.1 b.2.1 ∧ Pd b.1 b.2.2
  | _, [], _, r, h => by cases r; cases h; exact ⟨[], rfl, rfl, rfl, fun b hb => by simp at hb⟩
  | _, d :: ds, _, .cons r1 r2, h => by
    obtain ⟨y, ys, h1, h2, rfl⟩ := mapO_cons h
    obtain ⟨bs, b1, b2, b3, b4⟩ := tri n lh Pd hP r2 h2
    refine ⟨(_, d, y) :: bs, by rw [List.map_cons, b1], by rw [List.map_cons, b2, List.zip_cons_cons], by rw [List.map_cons, b3], fun b hb => ?_⟩
    rcases List.mem_cons.mp hb with rfl | hb
    · exact ⟨r1, hP r1 h1⟩
    · exact b4 b hb
theorem each_vals {bs : List (V × D × PyData)} : ∀ {us : List Value}, Vals (bs.map (·.1)) us → PySem.W.EachIs (fun u (b : V × D × PyData) => RelV b.1 u) us bs := by
  induction bs with
  | nil => intro us h; cases h; exact .nil
  | cons b bs ih =>
    intro us h
    cases h with
    | cons h1 h2 => exact .cons h1 (ih h2)
theorem vals_each {bs : List (V × D × PyData)} : ∀ {us : List Value}, PySem.W.EachIs (fun u (b : V × D × PyData) => RelV b.1 u) us bs → Vals (bs.map (·.1)) us := by
  induction bs with
  | nil => intro us h; cases h; exact .nil
  | cons b bs ih =>
    intro us h
    cases h with
    | cons h1 h2 => exact .cons h1 (ih h2)
theorem each_imp {α β : Type} {R S : α → β → Prop} : ∀ {as : List α} {bs : List β}, PySem.W.EachIs R as bs → (∀ a b, b ∈ bs → R a b → S a b) → PySem.W.EachIs S as bs
  | _, _, .nil, _ => .nil
  | _, _, .cons h t, f => .cons (f _ _ List.mem_cons_self h) (each_imp t fun a b hb => f a b (List.mem_cons_of_mem _ hb))
section
variable {X : Cx}
theorem cb_sorted (hu : X.A.units + 200 < cLine) : CallD X (.builtin "sorted") sortG := by
  intro al pins s σ H xs us Q I r ⟨A, ρ, lh, ds, S, rs, pr⟩
  unfold sortG at pr
  split at pr
  · rename_i d
    split at pr
    · rename_i xs1 h1
      split at pr
      · rename_i ps h2
        split at pr
        · rename_i hc
          obtain ⟨c1, hc⟩ := He.ba hc
          obtain ⟨c2, hc⟩ := He.ba hc
          obtain ⟨c3, c4⟩ := He.ba hc
          obtain ⟨v, rfl, rv⟩ := rs.one
          obtain ⟨a, vs, rfl, hq, r2⟩ := asL_rel S rv h1
          obtain ⟨u, rfl, ru⟩ := vals1 r
          obtain rfl : u = Value.ref a := ru
          obtain ⟨its, rvi, pl, hz⟩ := I.list hq
          obtain ⟨bs, b1, b2, b3, b4⟩ := tri fuel lh (fun v p => Dp X.K H v p) (fun r e => toP_dp S fuel r e) r2 h2
          subst b1
          have e1 : PySem.W.EachIs (fun u (b : V × D × PyData) => RelV b.1 u) its bs := each_vals rvi
          have e2 : PySem.W.EachIs (fun u (b : V × D × PyData) => ∃ as, Reads s.heap u b.2.2 as) its bs := each_imp e1 fun u b hb hr => Dp.reads I b.2.2 b.1 u (b4 b hb).2 hr
          have hal : PySem.W.AllAlike (bs.map fun b => b.2.2) := by
            rw [b3]
            intro p hp q hq
            exact List.all_eq_true.mp (List.all_eq_true.mp c1 p hp) q hq
          have hks : PySem.W.Sortable (bs.map fun b => b.2.2) := by
            rw [b3]
            rcases Bool.or_eq_true_iff.mp c2 with c2 | c2
            · refine .inl fun p hp => ?_
              have := List.all_eq_true.mp c2 p hp
              unfold tupNe at this
              split at this
              · exact ⟨_, _, rfl⟩
              · cases this
            · refine .inr fun p hp => ?_
              have := List.all_eq_true.mp c2 p hp
              constructor
              · intro e
                rw [e] at this
                cases this
              · intro xs e
                rw [e] at this
                cases this
          have hlen : bs.length = xs1.length := by
            have := r2.length
            rw [List.length_map] at this
            exact this
          refine PySem.W.sorted_data (enc := fun b : V × D × PyData => b.2.2) (R := fun u b => RelV b.1 u) pl.isList e1 e2 hal hks (by rw [hlen]; exact of_decide_eq_true c3) (fun b hb => ?_) fun out ho eo => ?_
          · have : b.2.2 ∈ ps := by rw [← b3]; exact List.mem_map.mpr ⟨b, hb, rfl⟩
            have := of_decide_eq_true (List.all_eq_true.mp c4 _ this)
            omega
          · obtain ⟨c, hcN⟩ := sortedAll_at s.heap its out.toArray
            have hmem : ∀ b ∈ bs.mergeSort (PySem.W.dataLe false fun b : V × D × PyData => b.2.2), b ∈ bs := fun b hb => (List.mergeSort_perm _ _).mem_iff.mp hb
            have eD : (bs.mergeSort (PySem.W.dataLe false fun b : V × D × PyData => b.2.2)).map (fun b => (b.2.1, b.2.2)) = isort leP (xs1.zip ps) := by
              rw [← b2, ← isort_eq (le := leP) (fun a b c => (PySem.W.sortLe_total (PyProof.Rows.listOrd PyProof.Rows.itemOrd) false fun x : D × PyData => PySem.W.keyToks x.2).trans a b c) (fun a b => by
                rcases (PySem.W.sortLe_total (PyProof.Rows.listOrd PyProof.Rows.itemOrd) false fun x : D × PyData => PySem.W.keyToks x.2).total a b with z | z
                · exact Bool.or_eq_true_iff.mpr (.inl z)
                · exact Bool.or_eq_true_iff.mpr (.inr z))]
              exact List.map_mergeSort fun a _ b _ => rfl
            have eV : VRs (gx X) A ρ H ((bs.mergeSort (PySem.W.dataLe false fun b : V × D × PyData => b.2.2)).map (·.1)) ((isort leP (xs1.zip ps)).map (·.1)) := by
              rw [← eD, List.map_map]
              have : ∀ l : List (V × D × PyData), (∀ b ∈ l, VR (gx X) A ρ H b.1 b.2.1) → VRs (gx X) A ρ H (l.map (·.1)) (l.map ((fun x : D × PyData => x.1) ∘ fun b => (b.2.1, b.2.2))) := by
                intro l
                induction l with
                | nil => intro _; exact .nil
                | cons b l ih => intro h; exact .cons (h b List.mem_cons_self) (ih fun c hc => h c (List.mem_cons_of_mem _ hc))
              exact this _ fun b hb => (b4 b (hmem b hb)).1
            have hd : s.heap.objs.size ≤ s.heap.objs.size + 1 := Nat.le_succ _
            refine ⟨.ref (s.heap.objs.size + 1), _, I.laid (a := s.heap.objs.size + 1) (o := .lst ((bs.mergeSort (PySem.W.dataLe false fun b : V × D × PyData => b.2.2)).map (·.1))) (t' := s.toks) (fun b o e => sortedAll_old e) hd ⟨?_, out, c, vals_each eo, hcN⟩, rfl, PRo.new (PRo.of pr) S eV _ (I.hok.fresh hd)⟩
            rw [List.length_map, (List.mergeSort_perm _ _).length_eq, hlen]
            exact of_decide_eq_true c3
        · exact pr.elim
      · exact pr.elim
    · exact pr.elim
  · exact pr.elim
end
end Tb

/-! list(zip(xs, ys)) of two lists. -/
namespace PySem
open PySem.Spec PyProof.Rows PySem.W
theorem tz_zip_no_len : typeLookup (.type "zip") "__len__" = pure none := by rw [typeLookup_type, builtinLookup_eq_fast]; kernel_rfl
theorem tz_zip_no_hint : typeLookup (.type "zip") "__length_hint__" = pure none := by rw [typeLookup_type, builtinLookup_eq_fast]; kernel_rfl
section
variable {prog : Program} {w : World} {A : Around} {R : Result → Shared → Prop} {E : Value → Shared → Prop}
/-- zip at the turn i -/
def ZipAt (h : Heap) (S z TI TO i1 i2 l1 l2 : Addr) (xs ys : Array Value) (i : Nat) : Prop :=
  IsPair h TI (.ref i1) (.ref i2) ∧ h.IsListIter i1 l1 i ∧ h.IsListIter i2 l2 i ∧ h.IsList l1 xs ∧ h.IsList l2 ys ∧
    ((IsZip h z TI TO .none ∧ ∃ a b, IsPair h TO a b) ∨ ∃ T f oT, IsZipHeld h z TI TO T f ∧ h.get? T = some oT ∧ T ≠ z ∧ T ≠ i1 ∧ T ≠ i2 ∧ T ≠ S ∧ ∃ o, h.get? TO = some o)
theorem ZipAt.keep {h h' : Heap} {z TI TO i1 i2 l1 l2 S : Addr} {xs ys : Array Value} {i : Nat} (hS : S ∉ [z, TI, TO, i1, i2, l1, l2]) (x : ZipAt h S z TI TO i1 i2 l1 l2 xs ys i) (k : ∀ b o, b ≠ S → h.get? b = some o → h'.get? b = some o) : ZipAt h' S z TI TO i1 i2 l1 l2 xs ys i := by
  obtain ⟨h1, h2, h3, h4, h5, h6⟩ := x
  simp only [List.mem_cons, List.not_mem_nil, or_false, not_or] at hS
  obtain ⟨s1, s2, s3, s4, s5, s6, s7⟩ := hS
  refine ⟨k _ _ (Ne.symm s2) h1, h2.at fun o e => k _ o (Ne.symm s4) e, h3.at fun o e => k _ o (Ne.symm s5) e, h4.at fun o e => k _ o (Ne.symm s6) e, h5.at fun o e => k _ o (Ne.symm s7) e, ?_⟩
  rcases h6 with ⟨h6, a, b, h7⟩ | ⟨T, f, oT, h6, h7, r1, r2, r3, r4, oO, r5⟩
  · exact .inl ⟨k _ _ (Ne.symm s1) h6, a, b, k _ _ (Ne.symm s3) h7⟩
  · exact .inr ⟨T, f, oT, k _ _ (Ne.symm s1) h6, k _ _ r4 h7, r1, r2, r3, r4, oO, k _ _ (Ne.symm s3) r5⟩
/-- the pairs so far -/
def PairsTo (lo : Nat) (h : Heap) (bad : List Addr) (xs ys : Array Value) (acc : Array Value) (i : Nat) : Prop :=
  acc.size = i ∧ (∀ (j : Nat) (v : Value), acc[j]? = some v → ∃ (T : Addr) (x y : Value), v = Value.ref T ∧ xs[j]? = some x ∧ ys[j]? = some y ∧ IsPair h T x y ∧ T ∉ bad ∧ lo ≤ T) ∧
    ∀ (j j' : Nat) (T : Addr), acc[j]? = some (.ref T) → acc[j']? = some (.ref T) → j = j'
theorem PairsTo.keep {lo : Nat} {h h' : Heap} {bad : List Addr} {xs ys acc : Array Value} {i : Nat} (x : PairsTo lo h bad xs ys acc i) (k : ∀ b o, b ∉ bad → h.get? b = some o → h'.get? b = some o) : PairsTo lo h' bad xs ys acc i :=
  ⟨x.1, fun j v e => by
    obtain ⟨T, a, b, h1, h2, h3, h4, h5, h6⟩ := x.2.1 j v e
    exact ⟨T, a, b, h1, h2, h3, k _ _ h5 h4, h5, h6⟩, x.2.2⟩
theorem zip_loop {lo : Nat} {z TI TO i1 i2 l1 l2 S : Addr} {xs ys : Array Value} (hh : A.handled = none) (D : ZipApart z TI TO i1 i2 l1 l2) (hS : S ∉ [z, TI, TO, i1, i2, l1, l2]) (hn : min xs.size ys.size ≤ sizeLine) (res : Value) :
    ∀ (k i : Nat) (s : Shared) (acc : Array Value) (c : Nat), min xs.size ys.size - i = k → i ≤ min xs.size ys.size → lo ≤ s.heap.objs.size → ZipAt s.heap S z TI TO i1 i2 l1 l2 xs ys i → 
      s.heap.get? S = some { cls := .type "list", dict := none, data := .seq acc c, slots := #[] } → PairsTo lo s.heap [S, z, TI, TO, i1, i2] xs ys acc i →
    (∀ h' acc' c', (∀ b o, b ∉ [S, z, TI, TO, i1, i2] → s.heap.get? b = some o → h'.get? b = some o) → h'.get? S = some { cls := .type "list", dict := none, data := .seq acc' c', slots := #[] } → PairsTo lo h' [S, z, TI, TO, i1, i2] xs ys acc' (min xs.size ys.size) → R (.ok (.ret res)) { s with heap := h' }) →
    codeAny (model prog w) A (.builtin "list.extend.loop" ⟨[.ref S, .ref z, res], []⟩) R s := by
  have hS' := hS
  simp only [List.mem_cons, List.not_mem_nil, or_false, not_or] at hS'
  obtain ⟨s1, s2, s3, s4, s5, s6, s7⟩ := hS'
  intro k
  induction k with
  | zero =>
    intro i s acc c hk hi hlo hst hSl hacc hR
    have hin : i = min xs.size ys.size := by omega
    subst hin
    refine codeAny_builtin F.entry_extend_loop ?_
    rw [Around.under_plainId F.plain_extend_loop _]
    show wpAny _ A.in1 (pyNext (.ref z) >>= _) _ _ s
    obtain ⟨hTI, h1, h2, hl1, hl2, hz⟩ := hst
    have hend : xs[min xs.size ys.size]? = none ∨ ys[min xs.size ys.size]? = none := by
      rcases Nat.le_total xs.size ys.size with h | h
      · exact .inl (Array.getElem?_eq_none (by rw [Nat.min_eq_left h]; exact Nat.le_refl _))
      · exact .inr (Array.getElem?_eq_none (by rw [Nat.min_eq_right h]; exact Nat.le_refl _))
    have fin : ∀ h' : Heap, (∀ c o, c ≠ z → c ≠ TO → c ≠ i1 → c ≠ i2 → s.heap.get? c = some o → h'.get? c = some o) → R (.ok (.ret res)) { s with heap := h' } := fun h' hk =>
      hR h' acc c (fun b o hb e => hk b o (fun x => hb (by simp [x])) (fun x => hb (by simp [x])) (fun x => hb (by simp [x])) (fun x => hb (by simp [x])) e) (hk _ _ s1 s3 s4 s5 hSl)
        (hacc.keep fun b o hb e => hk b o (fun x => hb (by simp [x])) (fun x => hb (by simp [x])) (fun x => hb (by simp [x])) (fun x => hb (by simp [x])) e)
    rcases hz with ⟨hz, a, b, hTO⟩ | ⟨T, f, oT, hz, hT', r1, r2, r3, r4, hTOx⟩
    · exact wpAny_bind (wpAny_pyNext_zip_end hh D hz hTI hTO h1 h2 hl1 hl2 hend fun h' hk => wpAny_pure (fin h' hk))
    · exact wpAny_bind (wpAny_pyNext_zip_end_held hh D hz hT' hTI h1 h2 hl1 hl2 hend fun h' hk => wpAny_pure (fin h' fun c o h1 _ h2 h3 e => hk c o h1 h2 h3 e))
  | succ k ih =>
    intro i s acc c hk hi hlo hst hSl hacc hR
    have hlt : i < min xs.size ys.size := by omega
    refine codeAny_builtin F.entry_extend_loop ?_
    rw [Around.under_plainId F.plain_extend_loop _]
    show wpAny _ A.in1 (pyNext (.ref z) >>= _) _ _ s
    obtain ⟨hTI, h1, h2, hl1, hl2, hz⟩ := hst
    have hix : i < xs.size := Nat.lt_of_lt_of_le hlt (Nat.min_le_left ..)
    have hiy : i < ys.size := Nat.lt_of_lt_of_le hlt (Nat.min_le_right ..)
    have ex := Array.getElem?_eq_getElem hix
    have ey := Array.getElem?_eq_getElem hiy
    have lt : ∀ {c o}, s.heap.get? c = some o → s.heap.objs.size ≠ c := fun e => Nat.ne_of_gt (Heap.lt_size e)
    have n1 : s.heap.objs.size ≠ i1 := let ⟨_, e, _⟩ := h1; lt e
    have n2 : s.heap.objs.size ≠ i2 := let ⟨_, e, _⟩ := h2; lt e
    have n3 : s.heap.objs.size ≠ z := by
      rcases hz with ⟨hz, _⟩ | ⟨_, _, _, hz, _⟩
      · exact lt hz
      · exact lt hz
    have n4 : s.heap.objs.size ≠ S := lt hSl
    have n5 : s.heap.objs.size ≠ TI := lt hTI
    have go : ∀ (h' : Heap) , IsPair h' s.heap.objs.size xs[i] ys[i] → h'.objs.size = s.heap.objs.size + 1 → s.heap.objs.size ∉ [S, z, TI, TO, i1, i2] → (∀ c o, c ≠ z → c ≠ TO → c ≠ i1 → c ≠ i2 → s.heap.get? c = some o → h'.get? c = some o) → ZipAt h' S z TI TO i1 i2 l1 l2 xs ys (i + 1) →
        wpAny (model prog w) A.in1 (updateSeq S (·.push (.ref s.heap.objs.size)) >>= fun _ => again (.builtin "list.extend.loop" ⟨[.ref S, .ref z, res], []⟩))
          (fun fin s' => match fin with | .done f => R (.ok f) s' | .again c' => c'.quiet = true ∧ codeAny (model prog w) A c' R s') (fun e s' => R (.error e) s') { s with heap := h' } := by
      intro h' hp hsz hnb hk hst'
      have hSl' := hk _ _ s1 s3 s4 s5 hSl
      refine wpAny_bind ?_
      have oth : ∀ b o, b ≠ S → h'.get? b = some o → (h'.update S (Obj.mapSeq (·.push (.ref s.heap.objs.size)))).get? b = some o := fun b o hb e => (Heap.get?_update_other _ _ (Ne.symm hb)).trans e
      refine wpAny_updateSeq hSl' rfl (wpAny_pure ⟨plainId_quiet F.plain_extend_loop _, ih (i + 1) _ (acc.push (.ref s.heap.objs.size)) _ (by omega) hlt (by show lo ≤ (h'.update S _).objs.size; rw [Heap.size_update, hsz]; omega) (hst'.keep hS oth) (Heap.get?_update_self _ hSl' rfl) ?_ fun h'' acc' c' hk'' hS'' hacc' => ?_⟩)
        (by rw [hacc.1]; omega) (by show (acc.push _).size ≤ sizeLine + 1; rw [Array.size_push, hacc.1]; omega)
      · have old : ∀ (j : Nat) (T : Addr), acc[j]? = some (.ref T) → T ≠ s.heap.objs.size := fun j T e => by
          obtain ⟨T', x, y, a1, a2, a3, a4, a5, a6⟩ := hacc.2.1 j _ e
          cases a1
          exact Nat.ne_of_lt (Heap.lt_size a4)
        refine ⟨by rw [Array.size_push, hacc.1], fun j v hj => ?_, fun j j' T hj hj' => ?_⟩
        rotate_left
        · rw [Array.getElem?_push] at hj hj'
          split at hj
          · cases hj
            split at hj'
            · omega
            · exact absurd rfl (old _ _ hj')
          · split at hj'
            · cases hj'
              exact absurd rfl (old _ _ hj)
            · exact hacc.2.2 _ _ _ hj hj'
        rw [Array.getElem?_push] at hj
        split at hj
        · rename_i e
          rw [hacc.1] at e
          cases hj
          exact ⟨_, _, _, rfl, by rw [e]; exact ex, by rw [e]; exact ey, oth _ _ n4 hp, hnb, hlo⟩
        · obtain ⟨T, x, y, a1, a2, a3, a4, a5, a6⟩ := hacc.2.1 j v hj
          refine ⟨T, x, y, a1, a2, a3, oth _ _ (fun q => a5 (by simp [q])) (hk _ _ (fun q => a5 (by simp [q])) (fun q => a5 (by simp [q])) (fun q => a5 (by simp [q])) (fun q => a5 (by simp [q])) a4), a5, a6⟩
      · refine hR h'' acc' c' (fun b o hb e => hk'' b o hb (oth b o (fun q => hb (by simp [q])) (hk b o (fun q => hb (by simp [q])) (fun q => hb (by simp [q])) (fun q => hb (by simp [q])) (fun q => hb (by simp [q])) e))) hS'' hacc'
    rcases hz with ⟨hz, a, b, hTO⟩ | ⟨T, f, oT, hz, hTT, r1, r2, r3, r4, hTOx⟩
    · have n6 : s.heap.objs.size ≠ TO := lt hTO
      refine wpAny_bind (wpAny_pyNext_zip_item D hz hTI hTO h1 h2 hl1 hl2 ex ey fun h' a1 a2 a3 a4 a5 a6 hk => ?_)
      exact go h' a5 a6 (by simp only [List.mem_cons, List.not_mem_nil, or_false, not_or]; exact ⟨n4, n3, n5, n6, n1, n2⟩) hk ⟨hk _ _ D.TIz D.TITO D.TIi1 D.TIi2 hTI, a3, a4, hl1.at fun o e => hk _ o D.l1z D.l1TO D.l1i1 D.l1i2 e, hl2.at fun o e => hk _ o D.l2z D.l2TO D.l2i1 D.l2i2 e, .inr ⟨s.heap.objs.size, false, _, a1, a5, n3, n1, n2, n4, _, a2⟩⟩
    · obtain ⟨o6, e6⟩ := hTOx
      have n6 : s.heap.objs.size ≠ TO := lt e6
      refine wpAny_bind (wpAny_pyNext_zip_item_held D hz hTT hTI h1 h2 hl1 hl2 ex ey fun h' a1 a3 a4 a5 a6 hk => ?_)
      exact go h' a5 a6 (by simp only [List.mem_cons, List.not_mem_nil, or_false, not_or]; exact ⟨n4, n3, n5, n6, n1, n2⟩) (fun c o h1 _ h2 h3 e => hk c o h1 h2 h3 e) ⟨hk _ _ D.TIz D.TIi1 D.TIi2 hTI, a3, a4, hl1.at fun o e => hk _ o D.l1z D.l1i1 D.l1i2 e, hl2.at fun o e => hk _ o D.l2z D.l2i1 D.l2i2 e, .inr ⟨T, true, oT, a1, hk _ _ r1 r2 r3 hTT, r1, r2, r3, r4, o6, hk _ _ D.TOz D.TOi1 D.TOi2 e6⟩⟩

theorem zip_extend {lo : Nat} {z TI TO i1 i2 l1 l2 S : Addr} {xs ys : Array Value} {s : Shared} (hh : A.handled = none) (D : ZipApart z TI TO i1 i2 l1 l2) (hS : S ∉ [z, TI, TO, i1, i2, l1, l2]) (hn : min xs.size ys.size ≤ sizeLine) (res : Value) (c₀ : Nat) (hlo : lo ≤ s.heap.objs.size)
    (hst : ZipAt s.heap S z TI TO i1 i2 l1 l2 xs ys 0) (hz : IsZip s.heap z TI TO .none) (hSl : s.heap.get? S = some { cls := .type "list", data := .seq #[] c₀ })
    (hR : ∀ h' acc' c', (∀ b o, b ∉ [S, z, TI, TO, i1, i2] → s.heap.get? b = some o → h'.get? b = some o) → h'.get? S = some { cls := .type "list", dict := none, data := .seq acc' c', slots := #[] } → PairsTo lo h' [S, z, TI, TO, i1, i2] xs ys acc' (min xs.size ys.size) → R (.ok (.ret res)) { s with heap := h' }) :
    wpAny (model prog w) A.in1 (Builtin.List.listExtendWith (.ref S) (.ref z) res)
      (fun fin s' => match fin with | .done f => R (.ok f) s' | .again c' => c'.quiet = true ∧ codeAny (model prog w) A c' R s') (fun e s' => R (.error e) s') s := by
  have hS' := hS
  simp only [List.mem_cons, List.not_mem_nil, or_false, not_or] at hS'
  obtain ⟨s1, s2, s3, s4, s5, s6, s7⟩ := hS'
  have hT : s.TypeIs (.ref z) "zip" := ⟨_, hz, rfl⟩
  unfold Builtin.List.listExtendWith
  refine wpAny_bind (wpAny_typeOf hT ?_)
  have h1 : Builtin.List.listSameRef (.ref S) (.ref z) = false := by simp [Builtin.List.listSameRef, s1]
  have h2 : (Value.type "zip" == Value.type "list") = false := by decide
  have h3 : (Value.type "zip" == Value.type "tuple") = false := by decide
  simp only [h1, h2, h3, Bool.or_false, Bool.false_eq_true, if_false]
  refine wpAny_bind (wpAny_pyIter_zip hz ?_)
  refine wpAny_bind (wpAny_holding ?_)
  unfold Builtin.List.listLengthHint
  refine wpAny_bind (wpAny_specialOf hT tz_zip_no_len ?_)
  show wpAny _ A.in1 (specialOf (Value.ref z) (Str.ofString "__length_hint__") >>= _) _ _ _
  refine wpAny_bind (wpAny_specialOf hT tz_zip_no_hint ?_)
  refine wpAny_pure ?_
  show wpAny _ A.in1 (rule "list.extend.makes-room" >>= fun _ => Builtin.List.listTouch (.ref S) >>= fun _ =>
    again (.builtin "list.extend.loop" ⟨[.ref S, .ref z, res], []⟩)) _ _ _
  refine wpAny_bind (wpAny_rule ?_)
  refine wpAny_bind ?_
  show wpAny _ A.in1 (updateSeq S (·.push .none) >>= fun _ => updateSeq S (·.pop)) _ _ _
  refine wpAny_bind (wpAny_updateSeq hSl rfl ?_)
  have hS₂ := Heap.get?_update_self (Obj.mapSeq (·.push Value.none)) hSl rfl
  refine wpAny_updateSeq (hz := by seq_fits) hS₂ rfl ?_
  have hS₃ := Heap.get?_update_self (Obj.mapSeq (·.pop)) hS₂ rfl
  have oth : ∀ b o, b ≠ S → s.heap.get? b = some o → ((s.heap.update S (Obj.mapSeq (·.push Value.none))).update S (Obj.mapSeq (·.pop))).get? b = some o :=
    fun b o hb e => (Heap.get?_update_other _ _ (Ne.symm hb)).trans ((Heap.get?_update_other _ _ (Ne.symm hb)).trans e)
  refine wpAny_pure ⟨plainId_quiet F.plain_extend_loop _, zip_loop (lo := lo) hh D hS hn res _ 0 _ #[] _ rfl (Nat.zero_le _) (by rw [Heap.size_update, Heap.size_update]; exact hlo) (hst.keep hS oth) hS₃ ⟨rfl, fun j v e => by simp at e, fun j j' T e => by simp at e⟩ fun h' acc' c' hk hS' hacc => ?_⟩
  exact hR h' acc' c' (fun b o hb e => hk b o hb (oth b o (fun q => hb (by simp [q])) e)) hS' hacc
theorem zip_init {lo : Nat} {z TI TO i1 i2 l1 l2 S : Addr} {xs ys : Array Value} {s : Shared} (hh : A.handled = none) (D : ZipApart z TI TO i1 i2 l1 l2) (hS : S ∉ [z, TI, TO, i1, i2, l1, l2]) (hn : min xs.size ys.size ≤ sizeLine) (hlo : lo ≤ s.heap.objs.size)
    (hst : ZipAt s.heap S z TI TO i1 i2 l1 l2 xs ys 0) (hz : IsZip s.heap z TI TO .none) (hSl : s.heap.get? S = some { cls := .type "list", data := .seq #[] })
    (hR : ∀ h' acc' c', (∀ b o, b ∉ [S, z, TI, TO, i1, i2] → s.heap.get? b = some o → h'.get? b = some o) → h'.get? S = some { cls := .type "list", dict := none, data := .seq acc' c', slots := #[] } → PairsTo lo h' [S, z, TI, TO, i1, i2] xs ys acc' (min xs.size ys.size) → R (.ok (.ret .none)) { s with heap := h' }) :
    wpAny (model prog w) A.in1 (Builtin.«list.__init__» ⟨[.ref S, .ref z], []⟩)
      (fun fin s' => match fin with | .done f => R (.ok f) s' | .again c' => c'.quiet = true ∧ codeAny (model prog w) A c' R s') (fun e s' => R (.error e) s') s := by
  have hS' := hS
  simp only [List.mem_cons, List.not_mem_nil, or_false, not_or] at hS'
  obtain ⟨s1, s2, s3, s4, s5, s6, s7⟩ := hS'
  show wpAny _ A.in1 (do let old ← Builtin.List.listItems (.ref S); Builtin.List.listUpdate (.ref S) (fun _ => #[]); letGo old.toList.reverse; Builtin.List.listExtendWith (.ref S) (.ref z) .none) _ _ s
  refine wpAny_bind ?_
  unfold Builtin.List.listItems
  refine wpAny_bind (wpAny_seqItems hSl rfl (wpAny_pure ?_))
  show wpAny _ A.in1 (updateSeq S (fun _ => #[]) >>= fun _ => letGo (#[] : Array Value).toList.reverse >>= fun _ => Builtin.List.listExtendWith (.ref S) (.ref z) .none) _ _ s
  refine wpAny_bind (wpAny_updateSeq hSl rfl ?_)
  have hS₂ := Heap.get?_update_self (Obj.mapSeq (fun _ => (#[] : Array Value))) hSl rfl
  have oth : ∀ b o, b ≠ S → s.heap.get? b = some o → (s.heap.update S (Obj.mapSeq (fun _ => (#[] : Array Value)))).get? b = some o :=
    fun b o hb e => (Heap.get?_update_other _ _ (Ne.symm hb)).trans e
  refine wpAny_bind (wpAny_letGo ?_)
  refine zip_extend hh D hS hn .none _ (by rw [Heap.size_update]; exact hlo) (hst.keep hS oth) (oth _ _ (Ne.symm s1) hz) hS₂ fun h' acc' c' hk hS' hacc => ?_
  exact hR h' acc' c' (fun b o hb e => hk b o hb (oth b o (fun q => hb (by simp [q])) e)) hS' hacc
theorem call_list_zip {lo : Nat} {z TI TO i1 i2 l1 l2 : Addr} {xs ys : Array Value} {s : Shared} {Q : Value → Shared → Prop} (hh : A.handled = none) (D : ZipApart z TI TO i1 i2 l1 l2) (hn : min xs.size ys.size ≤ sizeLine) (hlo : lo ≤ s.heap.objs.size)
    (hz : IsZip s.heap z TI TO .none) (hTI : IsPair s.heap TI (.ref i1) (.ref i2)) {a b : Value} (hTO : IsPair s.heap TO a b) (h1 : s.heap.IsListIter i1 l1 0) (h2 : s.heap.IsListIter i2 l2 0) (hl1 : s.heap.IsList l1 xs) (hl2 : s.heap.IsList l2 ys)
    (hQ : ∀ h' acc' c', (∀ b o, b ∉ [z, TI, TO, i1, i2] → s.heap.get? b = some o → h'.get? b = some o) → h'.get? s.heap.objs.size = some { cls := .type "list", dict := none, data := .seq acc' c', slots := #[] } → PairsTo lo h' [s.heap.objs.size, z, TI, TO, i1, i2] xs ys acc' (min xs.size ys.size) → Q (.ref s.heap.objs.size) { s with heap := h' }) :
    wpAny (model prog w) A (call (.type "list") [.ref z]) Q E s := by
  have lt : ∀ {c o}, s.heap.get? c = some o → s.heap.objs.size ≠ c := fun e => Nat.ne_of_gt (Heap.lt_size e)
  have hS : s.heap.objs.size ∉ [z, TI, TO, i1, i2, l1, l2] := by
    simp only [List.mem_cons, List.not_mem_nil, or_false, not_or]
    exact ⟨lt hz, lt hTI, lt hTO, let ⟨_, e, _⟩ := h1; lt e, let ⟨_, e, _⟩ := h2; lt e, let ⟨_, e, _⟩ := hl1; lt e, let ⟨_, e, _⟩ := hl2; lt e⟩
  refine callType_codes (Q₁ := fun obj s₁ => obj = .ref s.heap.objs.size ∧ s₁ = { s with heap := s.heap.push { cls := .type "list", data := .seq #[] } }) F.called_list (F.typeCall_list_1 _) F.entry_list_init
    (code_list_new _ ⟨rfl, rfl⟩) fun obj s₁ h₁ => ?_
  obtain ⟨rfl, rfl⟩ := h₁
  have hSl : (s.heap.push { cls := .type "list", data := .seq #[] }).get? s.heap.objs.size = some { cls := .type "list", data := .seq #[] } := Heap.get?_push_size _ rfl
  have oth : ∀ b o, s.heap.get? b = some o → (s.heap.push { cls := .type "list", data := .seq #[] }).get? b = some o := fun b o e => Heap.get?_push_of_some _ e
  refine ⟨⟨_, hSl, rfl⟩, F.args_list_init_2 _ _, zip_init (A := A.in1) hh D hS hn (by show lo ≤ (s.heap.push _).objs.size; rw [Heap.size_push]; exact Nat.le_succ_of_le hlo) ⟨oth _ _ hTI, h1.at fun o e => oth _ o e, h2.at fun o e => oth _ o e, hl1.at fun o e => oth _ o e, hl2.at fun o e => oth _ o e, .inl ⟨oth _ _ hz, a, b, oth _ _ hTO⟩⟩ (oth _ _ hz) hSl fun h' acc' c' hk hS' hacc => ?_⟩
  exact ⟨rfl, hQ h' acc' c' (fun b o hb e => hk b o (by simp only [List.mem_cons, not_or] at hb ⊢; exact ⟨Ne.symm (lt e), hb⟩) (oth b o e)) hS' hacc⟩
end
end PySem
namespace Tb
open PySem PySem.Spec PyProof.Rows L2
/-- pairs of two lists -/
def zipD : List D → List D → List D
  | x :: xs, y :: ys => .tup [x, y] :: zipD xs ys
  | _, _ => []
theorem zipD_length : ∀ xs ys : List D, (zipD xs ys).length = min xs.length ys.length
  | [], ys => by simp [zipD]
  | x :: xs, [] => by simp [zipD]
  | x :: xs, y :: ys => by simp only [zipD, List.length_cons, zipD_length xs ys]; omega
theorem zipD_get : ∀ (xs ys : List D) (j : Nat) (d : D), (zipD xs ys)[j]? = some d → ∃ x y, xs[j]? = some x ∧ ys[j]? = some y ∧ d = .tup [x, y]
  | [], _, _, _, h => by simp [zipD] at h
  | _ :: _, [], _, _, h => by simp [zipD] at h
  | x :: xs, y :: ys, 0, d, h => by simp [zipD] at h; exact ⟨x, y, rfl, rfl, h.symm⟩
  | x :: xs, y :: ys, j + 1, d, h => by
    simp only [zipD, List.getElem?_cons_succ] at h ⊢
    exact zipD_get xs ys j d h
theorem VRs.of_get {G : Gx} {A : Addr → Prop} {ρ : List Addr} {H : Hp} : ∀ {vs : List V} {ds : List D}, vs.length = ds.length → (∀ (j : Nat) (v : V) (d : D), vs[j]? = some v → ds[j]? = some d → VR G A ρ H v d) → VRs G A ρ H vs ds
  | [], [], _, _ => .nil
  | [], _ :: _, h, _ => by simp at h
  | _ :: _, [], h, _ => by simp at h
  | v :: vs, d :: ds, h, f => .cons (f 0 v d rfl rfl) (VRs.of_get (by simpa using h) fun j w e h1 h2 => f (j + 1) w e (by simpa using h1) (by simpa using h2))
section
variable {G : Gx} {A : Addr → Prop} {ρ : List Addr} {H H' : Hp} {lh : LH}
theorem stp_more (h : ∀ a o, H a = some o → H' a = some o) : Stp ρ H ρ H' := ⟨⟨[], by simp, fun _ z => absurd z (by simp)⟩, fun a o e _ => h a o e, fun a u e => h a _ e, fun a o u e => h a _ e, fun a o e => ⟨o, h a o e⟩⟩
theorem SR.more (S : SR G A ρ H lh) (h : ∀ a o, H a = some o → H' a = some o) : SR G A ρ H' lh := ⟨S.len, S.nd, fun a z => by obtain ⟨o, e⟩ := S.av a z; exact ⟨o, h a o e⟩, fun n o e => by
  obtain ⟨a, h1, h2⟩ := S.obj n o e
  exact ⟨a, h1, h2.stp (stp_more h) fun u z => h a u z⟩⟩
end
theorem lay_one {P : Program} {w : World} {fs : List Addr} {H H' : Hp} {h h' : Heap} {T : Addr} {o : HO} (a1 : Un fs [] H H' h h') (a2 : HOk P w H' h') (t1 : h.objs.size ≤ T) (hn : H' T = none) (new : ObjOk P w (upd H' T o) h' T o) : Un fs [] H (upd H' T o) h h' ∧ HOk P w (upd H' T o) h' := by
  refine ⟨⟨a1.keep, a1.slot, fun b o e z hx => ?_, a1.there, fun b xs e => ?_, fun b o xs e => ?_, fun b ps e => ?_⟩, HOk.laidN a2 (fun _ _ e => e) hn new⟩
  · rw [upd_ne (Nat.ne_of_lt (Nat.lt_of_lt_of_le (Heap.lt_size e) t1))]
    exact a1.free b o e z hx
  · rw [upd_ne (ne_of_none (a1.tups b xs e) hn)]; exact a1.tups b xs e
  · rw [upd_ne (ne_of_none (a1.frzs b o xs e) hn)]; exact a1.frzs b o xs e
  · obtain ⟨more, q⟩ := a1.tbls b ps e
    exact ⟨more, by rw [upd_ne (ne_of_none q hn)]; exact q⟩
/-- pairs laid, one after another: at T j the pair of v j and u j -/
theorem lay_pairs {P : Program} {w : World} {fs : List Addr} {H : Hp} {h h' : Heap} (hk : HOk P w H h) (k : ∀ b o, h.get? b = some o → h'.get? b = some o) (T : Nat → Addr) (v u : Nat → V) (n : Nat)
    (hT : ∀ j, j < n → h.objs.size ≤ T j ∧ ∃ x y, RelV (v j) x ∧ RelV (u j) y ∧ IsPair h' (T j) x y) (hd : ∀ i j, i < n → j < n → T i = T j → i = j) :
    ∀ m, m ≤ n → ∃ H', Un fs [] H H' h h' ∧ HOk P w H' h' ∧ (∀ a o, H a = some o → H' a = some o) ∧ (∀ j, j < m → H' (T j) = some (.tup [v j, u j])) ∧ (∀ j, m ≤ j → j < n → H' (T j) = none) ∧ ∀ a, H a = none → (∀ j, j < n → T j ≠ a) → H' a = none := by
  intro m
  induction m with
  | zero => exact fun _ => ⟨H, Un.kept k, hk.kept k, fun _ _ e => e, fun j hj => absurd hj (Nat.not_lt_zero _), fun j _ hj => hk.fresh (hT j hj).1, fun a e _ => e⟩
  | succ m ih =>
    intro hm
    obtain ⟨H', a1, a2, a3, a4, a5, a6⟩ := ih (Nat.le_of_succ_le hm)
    have hn := a5 m (Nat.le_refl _) hm
    obtain ⟨t1, x, y, rx, ry, ip⟩ := hT m hm
    have new : ObjOk P w (upd H' (T m) (.tup [v m, u m])) h' (T m) (.tup [v m, u m]) := ⟨by show 2 ≤ sizeLine; decide, [x, y], .cons rx (.cons ry .nil), ⟨_, ip, rfl, _, rfl⟩⟩
    obtain ⟨c1, c2⟩ := lay_one a1 a2 t1 hn new
    refine ⟨upd H' (T m) (.tup [v m, u m]), c1, c2, fun a o e => ?_, fun j hj => ?_, fun j h1 h2 => ?_, fun a e f => ?_⟩
    · rw [upd_ne (ne_of_none (a3 a o e) hn)]; exact a3 a o e
    · by_cases hjm : j = m
      · subst hjm; exact upd_same
      · rw [upd_ne (fun z => hjm (hd _ _ (by omega) hm z))]; exact a4 j (by omega)
    · rw [upd_ne (fun z => by have := hd _ _ h2 hm z; omega)]; exact a5 j (by omega) h2
    · rw [upd_ne (Ne.symm (f m hm))]; exact a6 a e f
def lzG (lh : LH) (ds : List D) : Ro := match ds with
  | [d, e] => (match asL lh d, asL lh e with
    | some xs, some ys => if min xs.length ys.length ≤ sizeLine then .l (zipD xs ys) else .no
    | _, _ => .no)
  | _ => .no
def eLisZip (al : Bool) (m : AM) : EM := eCall al lzG m
section
variable {X : Cx} {W : WX} {e e2 : Expr} {m : AM} {p p2 pos pos2 : Pos}
theorem ee_lisZip (al : Bool) (hc : X.calm = true) (ha : EA X W [e, e2] m) (hm : X.mg "list" = none) (hm2 : X.mg "zip" = none) (hg : Gl X "list" := by rfl) (hg2 : Gl X "zip" := by rfl)
    (hs : starEach [e, e2] X.env = (false, eval e X.env) :: starEach [e2] X.env := by rfl) (hpl : (backTo pos2 (starEach [e2] X.env)).any (·.1) = false := by rfl)
    (na2 : starEach [.Call (.Name "zip" p2) [e, e2] [] pos2] X.env = (false, eval (.Call (.Name "zip" p2) [e, e2] [] pos2) X.env) :: starEach [] X.env := by rfl) : EE X W (.Call (.Name "list" p) [.Call (.Name "zip" p2) [e, e2] [] pos2] [] pos) (eLisZip al m) :=
  ⟨fun pins s σ H Q I ⟨A, ρ, τ, lh, er, S, pr⟩ => by
    refine Call_ (ld_blt I hg hm boot_list (PyProof.Rows.callWith_type1 (args_cons (Call_ (ld_blt I hg2 hm2 PyProof.Rows.boot_zip (PyProof.Rows.callWith_type1 (thn (ha.run pos2 pins s σ H (fun vs H' => ∃ A ρ lh ds, SR (gx X) A ρ H' lh ∧ VRs (gx X) A ρ H' vs ds ∧ PRo (gx X) A ρ H' al lh (lzG lh ds) Q) I ⟨A, ρ, τ, lh, er, S, PRg.thn pr fun ds lh1 ρ1 H1 xs s1 S1 r1 pr1 => ?_⟩) fun us s1 ⟨vs, H1, I1, rv, q⟩ => ?_) hs hpl))) na2) na2))
    · exact ⟨A, ρ1, lh1, ds, S1, r1, PRo.of pr1⟩
    · obtain ⟨A, ρ, lh, ds, S, rs, pr⟩ := q
      unfold lzG at pr
      split at pr
      · rename_i d d'
        split at pr
        · rename_i xs ys hx hy
          split at pr
          · rename_i hz
            obtain ⟨v, v', rfl, r1, r2⟩ := rs.two
            obtain ⟨a, vs1, rfl, hq1, rs1⟩ := asL_rel S r1 hx
            obtain ⟨b, vs2, rfl, hq2, rs2⟩ := asL_rel S r2 hy
            obtain ⟨u1, u2, rfl, ru1, ru2⟩ := vals2 rv
            cases (show u1 = Value.ref a from ru1)
            cases (show u2 = Value.ref b from ru2)
            obtain ⟨its, rv1, p1, _⟩ := I1.list hq1
            obtain ⟨its2, rv2, p2, _⟩ := I1.list hq2
            have la : a < s1.heap.objs.size := p1.lt
            have lb : b < s1.heap.objs.size := p2.lt
            have n1 := rv1.length
            have n2 := rv2.length
            have n3 := rs1.length
            have n4 := rs2.length
            refine call_zip_2 p1.isList p2.isList fun h1 hzp hTI hTO i1 i2 hsz hk => args_nil ?_
            have hk0 : ∀ b o, s1.heap.get? b = some o → h1.get? b = some o := hk
            refine PySem.call_list_zip (lo := s1.heap.objs.size) (I1.ok.hd hc) (PySem.W.ktu_apart s1.heap.objs.size a b la lb) (by simp only [List.size_toArray]; omega) (by show s1.heap.objs.size ≤ h1.objs.size; rw [hsz]; omega) hzp hTI hTO i1 i2 (p1.isList.at fun o e => hk _ o e) (p2.isList.at fun o e => hk _ o e) fun h' acc c' hk' hL hacc => ?_
            have kp : ∀ b o, s1.heap.get? b = some o → h'.get? b = some o := fun c o e => hk' c o (by
              have := Heap.lt_size e
              simp only [List.mem_cons, List.not_mem_nil, or_false, not_or]
              exact ⟨Nat.ne_of_lt (Nat.lt_of_lt_of_le this (Nat.le_add_right _ _)), Nat.ne_of_lt (Nat.lt_of_lt_of_le this (Nat.le_add_right _ _)), Nat.ne_of_lt (Nat.lt_of_lt_of_le this (Nat.le_add_right _ _)), Nat.ne_of_lt this, Nat.ne_of_lt (Nat.lt_of_lt_of_le this (Nat.le_add_right _ _))⟩) (hk c o e)
            have hmin : min its.toArray.size its2.toArray.size = min xs.length ys.length := by simp only [List.size_toArray]; rw [← n1, ← n2, n3, n4]
            have hlen : acc.size = min xs.length ys.length := by rw [← hmin]; exact hacc.1
            let T : Nat → Addr := fun j => match acc[j]? with
              | some (.ref t) => t
              | _ => 0
            have hTj : ∀ j, j < min xs.length ys.length → ∃ x y, acc[j]? = some (.ref (T j)) ∧ its.toArray[j]? = some x ∧ its2.toArray[j]? = some y ∧ IsPair h' (T j) x y ∧ s1.heap.objs.size ≤ T j ∧ T j ≠ h1.objs.size := fun j hj => by
              have e1 : acc[j]? = some acc[j] := Array.getElem?_eq_getElem (by omega)
              obtain ⟨t, x, y, a1, a2, a3, a4, a5, a6⟩ := hacc.2.1 j _ e1
              have e2 : T j = t := by show (match acc[j]? with | some (.ref t) => t | _ => 0) = t; rw [e1, a1]
              rw [e2]
              exact ⟨x, y, by rw [e1, a1], a2, a3, a4, a6, fun z => a5 (by simp [z])⟩
            obtain ⟨H', b1, b2, b3, b4, b5, b6⟩ := lay_pairs (fs := X.fs) I1.hok kp T (fun j => (vs1[j]?).getD .non) (fun j => (vs2[j]?).getD .non) (min xs.length ys.length) (fun j hj => by
              obtain ⟨x, y, a1, a2, a3, a4, a5, _⟩ := hTj j hj
              have e1 : vs1[j]? = some vs1[j] := List.getElem?_eq_getElem (by omega)
              have e2 : vs2[j]? = some vs2[j] := List.getElem?_eq_getElem (by omega)
              obtain ⟨x', hx', rx⟩ := rv1.get e1
              obtain ⟨y', hy', ry⟩ := rv2.get e2
              have ex : its.toArray[j]? = some x' := by simpa using hx'
              have ey : its2.toArray[j]? = some y' := by simpa using hy'
              rw [a2] at ex
              rw [a3] at ey
              cases ex
              cases ey
              exact ⟨a5, x, y, by rw [e1]; exact rx, by rw [e2]; exact ry, a4⟩) (fun i j hi hj e => by
              obtain ⟨_, _, a1, _⟩ := hTj i hi
              obtain ⟨_, _, a2, _⟩ := hTj j hj
              rw [← e] at a2
              exact hacc.2.2 i j _ a1 a2) _ (Nat.le_refl _)
            have S2 := S.more b3
            have st2 : Stp ρ H1 ρ H' := stp_more b3
            have rs' : VRs (gx X) A ρ H' ((List.range (min xs.length ys.length)).map fun j => V.ref (T j)) (zipD xs ys) := VRs.of_get (by simp [zipD_length]) fun j v d hv hd => by
              obtain ⟨x, y, ex, ey, rfl⟩ := zipD_get xs ys j d hd
              obtain ⟨j1, h1⟩ := List.getElem?_eq_some_iff.mp ex
              obtain ⟨j2, h2⟩ := List.getElem?_eq_some_iff.mp ey
              have hj : j < min xs.length ys.length := by omega
              rw [List.getElem?_map, List.getElem?_range hj] at hv
              cases hv
              obtain ⟨x', e1, r1⟩ := rs1.get ex
              obtain ⟨y', e2, r2⟩ := rs2.get ey
              have := b4 j hj
              rw [e1, e2] at this
              exact .tup (SqT.of this) (.cons (r1.stp st2) (.cons (r2.stp st2) .nil))
            have hsz1 : s1.heap.objs.size ≤ h1.objs.size := by rw [hsz]; omega
            have hn : H' h1.objs.size = none := b6 _ (I1.hok.fresh hsz1) fun j hj => by
              obtain ⟨_, _, _, _, _, _, _, a6⟩ := hTj j hj
              exact a6
            have new : ObjOk X.prog X.w (upd H' h1.objs.size (.lst ((List.range (min xs.length ys.length)).map fun j => V.ref (T j)))) h' h1.objs.size (.lst ((List.range (min xs.length ys.length)).map fun j => V.ref (T j))) := by
              refine ⟨by rw [List.length_map, List.length_range]; exact hz, acc.toList, c', ?_, by rw [Array.toArray_toList]; exact hL⟩
              rw [← hlen, ← Array.length_toList]
              refine vals_of_get acc.toList _ fun j u hj => ?_
              have hj' : acc[j]? = some u := by rw [← Array.getElem?_toList]; exact hj
              obtain ⟨t, _, _, a1, _⟩ := hacc.2.1 j u hj'
              show u = Value.ref (match acc[j]? with | some (.ref t) => t | _ => 0)
              rw [hj', a1]
            obtain ⟨c1, c2⟩ := lay_one b1 b2 hsz1 hn new
            refine ⟨.ref h1.objs.size, _, I1.un (t' := _) c1 c2, rfl, ?_⟩
            exact PRo.new (PRg.stp st2 pr) S2 rs' _ hn
          · exact pr.elim
        · exact pr.elim
      · exact pr.elim⟩
end
end Tb

/-! Defs as they stand on the head. -/
namespace Tb
open PySem PySem.Spec PyProof.Rows L2

/-- the def at f: its mirror -/
def FOk (P : Program) (w : World) (K : PySem.W.Frag) (mg : Str → Option Value) (base : Heap) (k : Nat) (f : Addr) (n : Nat) (fm : FM) : Prop :=
  ∃ fd ps, FnOk P w K mg base (L2.CX P w) k f fd ps (spE ⟨P, w, K⟩ n fm) ∧ Binds K fd ps []
section
variable {P : Program} {w : World} {K : PySem.W.Frag} {mg : Str → Option Value} {base : Heap} {x qual : Str} {params : Arguments} {body : List Stmt} {scope : Scope} {f : Addr}
theorem fok_of {N ps : List Str} {j k n : Nat} (b : SM) (F : ∃ fd, FunD K x qual params body scope [] [] f fd) (S : FnScope N ps scope) (hn : ps.length = n) (hk : N.length = n + k)
    (hbd : ∀ (kV doc pm : Value) (an : Option Addr) (cdv ct : Value) (us : List Value), us.length = ps.length → bindArgs (PySem.W.fnOf x qual params body scope .none kV doc pm an cdv ct) ⟨us, []⟩ = pure (ps.zip us))
    (hb : ∀ (cdv : Value) (A : Around) (outer : List Env) (s : Shared) (H : Hp) (E : XK), Room j (A.deeper (envOfC qual scope s.heap.objs.size f cdv)) → ESs (cxOf (L2.CX P w) P w K mg base N qual scope f cdv A outer s H E) (WD E) body b) :
    FOk P w K mg base (j + 1) f n (fnM k b) := by
  obtain ⟨fd, F⟩ := F
  exact ⟨fd, ps, fn_ok b F S hn hk hb, F.bindsN hbd⟩
end
/-- a promise of nothing -/
theorem fok_stuck {P : Program} {w : World} {K : PySem.W.Frag} {mg : Str → Option Value} {base : Heap} {x qual : Str} {params : Arguments} {body : List Stmt} {scope : Scope} {f : Addr} {ps : List Str} {j n : Nat} (F : ∃ fd, FunD K x qual params body scope [] [] f fd)
    (hbd : ∀ (kV doc pm : Value) (an : Option Addr) (cdv ct : Value) (us : List Value), us.length = ps.length → bindArgs (PySem.W.fnOf x qual params body scope .none kV doc pm an cdv ct) ⟨us, []⟩ = pure (ps.zip us)) : FOk P w K mg base j f n (fun _ _ => .stuck) := by
  obtain ⟨fd, F⟩ := F
  exact ⟨fd, ps, ⟨fun vs H Q E ⟨_, _, _, _, _, _, _, z⟩ => z.elim, fun A outer s H args us vs Q E _ _ _ _ ⟨_, _, _, _, _, _, _, z⟩ => z.elim⟩, F.bindsN hbd⟩
section
variable {X : Cx} {W : WX} {k n : Nat} {f C : Addr} {x m : Str} {p pos apos : Pos} {e o : Expr} {es : List Expr} {ma : AM} {mo : EM} {fm : FM}
theorem ec_callS (tk : Takes X W) (F : FOk X.prog X.w X.K X.mg X.base k f n fm) (hr : Room k X.A) (hm : X.mg x = some (.ref f)) (hk : PySem.W.keepIn X.K (.ref f) = true) (ha : EA X W (e :: es) ma) (hg : Gl X x := by rfl)
    (hdb : (x == ("__debug__" : Str)) = false := by decide) (he : starEach (e :: es) X.env = (false, eval e X.env) :: starEach es X.env := by rfl) (hpl : (backTo pos (starEach es X.env)).any (·.1) = false := by rfl) : EE X W (.Call (.Name x p) (e :: es) [] pos) (eCallS n fm ma) := by
  obtain ⟨fd, ps, F, hb⟩ := F
  exact ee_callS tk F hr hm hk hb ha hg hdb he hpl
theorem ec_callP (tk : Takes X W) (F : FOk X.prog X.w X.K X.mg X.base k f n fm) (hr : Room k X.A) (hm : X.mg x = some (.ref f)) (hk : PySem.W.keepIn X.K (.ref f) = true) (ha : EA X W (e :: es) ma) (hg : Gl X x := by rfl)
    (hdb : (x == ("__debug__" : Str)) = false := by decide) (he : starEach (e :: es) X.env = (false, eval e X.env) :: starEach es X.env := by rfl) (hpl : (backTo pos (starEach es X.env)).any (·.1) = false := by rfl) : EE X W (.Call (.Name x p) (e :: es) [] pos) (eCallP n fm ma) := by
  obtain ⟨fd, ps, F, hb⟩ := F
  exact ee_callP tk F hr hm hk hb ha hg hdb he hpl
theorem ec_make (tk : Takes X W) (M : Mk X.K (He.ga X.K x) f) (F : FOk X.prog X.w X.K X.mg X.base k f n fm) (hr : Room (k + 1) X.A) (hm : X.mg x = some (.ref (He.ga X.K x))) (ha : EA X W (e :: es) ma)
    (hW : ∀ c σ σ' H, W c none σ H → W c none σ' H := by intro _ _ _ _ h; exact h) (hg : Gl X x := by rfl)
    (hdb : (x == ("__debug__" : Str)) = false := by decide) (he : starEach (e :: es) X.env = (false, eval e X.env) :: starEach es X.env := by rfl) (hpl : (backTo pos (starEach es X.env)).any (·.1) = false := by rfl) : EE X W (.Call (.Name x p) (e :: es) [] pos) (eMake x n fm ma) := by
  obtain ⟨fd, ps, F, hb⟩ := F
  exact ee_make tk M F hr hm hb ha hW hg hdb he hpl
theorem meth_of {c : Str} (hc : Cls X.K (He.ga X.K c)) (hm : Meth X.K (He.ga X.K c) m f) (F : FOk X.prog X.w X.K X.mg X.base k f n fm) (hr : Room k X.A) : MethOk X m n c fm := by
  obtain ⟨fd, ps, F, hb⟩ := F
  exact ⟨f, fd, ps, k, hc, hm, F, hr, hb⟩
end
theorem units_of {k : Nat} {A : Around} (r : Room k A) : A.units + 200 < cLine := by have := r.un; omega
theorem bb_len : bootBuiltins "len" = some (.builtin "len") := by rfl
theorem bb_sum : bootBuiltins "sum" = some (.builtin "sum") := by rfl
theorem bb_min : bootBuiltins "min" = some (.builtin "min") := by rfl
theorem bb_max : bootBuiltins "max" = some (.builtin "max") := by rfl
theorem bb_all : bootBuiltins "all" = some (.builtin "all") := by rfl
theorem bb_any : bootBuiltins "any" = some (.builtin "any") := by rfl
theorem bb_abs : bootBuiltins "abs" = some (.builtin "abs") := by rfl
theorem bb_sorted : bootBuiltins "sorted" = some (.builtin "sorted") := by rfl
theorem bb_list : bootBuiltins "list" = some (.type "list") := by rfl
theorem bb_tuple : bootBuiltins "tuple" = some (.type "tuple") := by rfl
theorem bb_int : bootBuiltins "int" = some (.type "int") := by rfl
theorem bb_bool : bootBuiltins "bool" = some (.type "bool") := by rfl
theorem bb_str : bootBuiltins "str" = some (.type "str") := by rfl
theorem aug_add {X : Cx} {W : WX} {e : Expr} {m : EM} {pos pos' : Pos} (i : Nat) {x : Str} (hN : X.N.Nodup) (h : EE X W e m) (hi : X.N[i]? = some x := by rfl) (hx : Loc X.env.scope x := by first | exact Or.inl rfl | exact Or.inr rfl)
    (hf : X.fn x = true ∨ X.env.scope.names.lookup x = some .local := by first | exact .inl rfl | exact .inr rfl) : ES X W (.AugAssign (.Name x pos') .Add e pos) (sAug i (fun _ d e => match d, e with
      | .int a, .int b => .v (.int (a + b))
      | _, _ => .no) m) := es_augAdd i hN h hi hx hf
end Tb

/-! xs[::-1] of lists and tuples. -/
namespace PySem.HTr
open PySem PySem.Spec PyProof.Rows HT L2
section
variable {prog : Program} {w : World} {A : Around} {E : Value → Shared → Prop} {s : Shared}
theorem adjust_back (n : Nat) : Builtin.Slice.sliceAdjust none none (-1) (n : Int) = ((n : Int) - 1, -1) := by
  unfold Builtin.Slice.sliceAdjust
  simp
theorem places_back (n : Nat) : Builtin.Slice.slicePlaces ((n : Int) - 1) (-1) (-1) = n := by
  unfold Builtin.Slice.slicePlaces
  have h1 : ¬ ((-1 : Int) > 0) := by omega
  simp only [h1, if_false]
  split
  · have e : ((n : Int) - 1 - -1 - 1) / (- -1) = (n : Int) - 1 := by
      rw [show (- -1 : Int) = 1 by decide, Int.ediv_one]
      omega
    omega
  · omega
theorem sliceApplied_back {sl : Addr} {vl vu vs : Value} {n : Nat} {Q : Int × Int × Nat → Shared → Prop} (hs : s.heap.IsSliceOf sl vl vu vs) (pl : IsPart vl none) (pu : IsPart vu none) (ps : IsPart vs (some (-1)))
    (h : Q ((n : Int) - 1, -1, n) s) : wpAny (model prog w) A (Builtin.Slice.sliceApplied (.ref sl) (pure (n : Int))) Q E s := by
  obtain ⟨os, hos, hcs, hds⟩ := id hs
  unfold Builtin.Slice.sliceApplied Builtin.Slice.sliceFields
  refine wpAny_bind (wpAny_bind (wpAny_field hos hds (x := vl) rfl (wpAny_bind (wpAny_field hos hds (x := vu) rfl (wpAny_bind (wpAny_field hos hds (x := vs) rfl (wpAny_pure ?_)))))))
  refine wpAny_bind (slicePart_ ps ?_)
  show wpAny _ _ (if ((-1 : Int) == 0) = true then _ else _) _ _ s
  rw [if_neg (by decide)]
  refine wpAny_bind (slicePart_ pl (wpAny_bind (slicePart_ pu (wpAny_bind (wpAny_pure ?_)))))
  show wpAny _ _ (match Builtin.Slice.sliceAdjust none none (-1) (n : Int) with | (lo, hi) => pure (lo, (-1 : Int), Builtin.Slice.slicePlaces lo hi (-1))) _ _ s
  rw [adjust_back n]
  show wpAny _ _ (pure ((n : Int) - 1, (-1 : Int), Builtin.Slice.slicePlaces ((n : Int) - 1) (-1) (-1))) _ _ s
  rw [places_back]
  exact wpAny_pure h
theorem fm_congr {α β : Type} {f g : α → Option β} : ∀ {l : List α}, (∀ m ∈ l, f m = g m) → l.filterMap f = l.filterMap g
  | [], _ => rfl
  | a :: l, h => by rw [List.filterMap_cons, List.filterMap_cons, h a List.mem_cons_self, fm_congr (l := l) fun m hm => h m (List.mem_cons_of_mem _ hm)]
theorem pick_back (xs : Array Value) : ((List.range xs.size).filterMap fun (m : Nat) => xs[(((xs.size : Nat) : Int) - 1 + (m : Int) * -1).toNat]?).toArray = xs.toList.reverse.toArray := by
  have e : (List.range xs.size).filterMap (fun (m : Nat) => xs[(((xs.size : Nat) : Int) - 1 + (m : Int) * -1).toNat]?) = ((List.range xs.size).map fun k => xs.size - 1 - k).filterMap (xs[·]?) := by
    rw [List.filterMap_map]
    refine fm_congr fun m hm => ?_
    have := List.mem_range.mp hm
    show xs[_]? = xs[xs.size - 1 - m]?
    have e : (((xs.size : Nat) : Int) - 1 + (m : Int) * -1).toNat = xs.size - 1 - m := by omega
    rw [e]
  rw [e, PySem.W.krv_range, List.filterMap_reverse, PySem.W.krv_all]
theorem getItem_tuple_back {t sl : Addr} {items : Array Value} {vl vu vs : Value} {Q : Value → Shared → Prop} (ht : IsTup s.heap t items) (hs : s.heap.IsSliceOf sl vl vu vs) (pl : IsPart vl none) (pu : IsPart vu none) (ps : IsPart vs (some (-1)))
    (h : Q (.ref s.heap.objs.size) { s with heap := s.heap.push { cls := .type "tuple", data := .seq items.toList.reverse.toArray } })
    (hsz : items.size ≤ sizeLine) : wpAny (model prog w) A (getItem (.ref t) (.ref sl)) Q E s := by
  have htake : sizeOk (.seq items.toList.reverse.toArray) := by
    show (items.toList.reverse.toArray).size ≤ sizeLine
    rw [List.size_toArray, List.length_reverse, Array.length_toList]
    exact hsz
  obtain ⟨os, hos, hcs, hds⟩ := id hs
  have hTs : s.TypeIs (.ref sl) "slice" := ⟨os, hos, hcs⟩
  unfold getItem
  try with_reducible refine wpAny_holding ?_
  first | refine wpAny_bind (wpAny_pure ?_) | skip
  refine wpAny_bind (wpAny_sequenceKey ht.typeIs (by decide) ?_)
  refine wpAny_bind (wpAny_callSpecial?_slot (name := Str.ofString "__getitem__") ht.typeIs PyProof.Rows.slot_tuple_getitem
    (wpAny_call_entry PyProof.Rows.slot_tuple_getitem ht.typeIs entry_tuple_getitem ?_ (args_tuple_getitem _ _)))
  show wpAny _ _ (Builtin.Tuple.tupleItemsOf (.ref t) >>= _) _ _ s
  refine wpAny_bind (tupleItemsOf_ ht ?_)
  refine wpAny_bind (wpAny_typeOf hTs ?_)
  rw [if_pos (by decide)]
  refine wpAny_bind (sliceApplied_back hs pl pu ps ?_)
  show wpAny _ _ (if (((items.size : Nat) : Int) - 1 == 0 && (-1 : Int) == 1 && items.size == items.size) = true then _ else _) _ _ s
  rw [if_neg (by simp), pick_back]
  first
    | exact wpAny_bind (m := Builtin.Tuple.tupleExact _) (wpAny_newObj_type (wpAny_pure ⟨_, rfl, wpAny_pure h⟩) htake)
    | exact wpAny_bind (m := Builtin.Tuple.tupleExact _) (wpAny_newObj_type (wpAny_bind (wpAny_pure (wpAny_pure ⟨_, rfl, wpAny_pure h⟩))) htake)
    | exact wpAny_bind (wpAny_bind (m := Builtin.Tuple.tupleExact _) (wpAny_newObj_type (wpAny_pure (wpAny_pure ⟨_, rfl, wpAny_pure h⟩)) htake))
    | exact wpAny_bind (wpAny_bind (m := Builtin.Tuple.tupleExact _) (wpAny_newObj_type (wpAny_pure ⟨_, rfl, wpAny_pure h⟩) htake))
end
end PySem.HTr
namespace Tb
open PySem PySem.Spec PyProof.Rows L2
def tRevT (K : PySem.W.Frag) (te : TE) : TE := fun σ H Q => te σ H fun x H1 => ∃ a xs, x = .ref a ∧ ((SqL K H1 a xs ∧ ∀ p, H1 p = none → Q (.ref p) (upd H1 p (.lst xs.reverse))) ∨ (SqT K H1 a xs ∧ ∀ p, H1 p = none → Q (.ref p) (upd H1 p (.tup xs.reverse))))
theorem pe_revT {X : Cx} {e : Expr} {te : TE} {k : Nat} {p1 p2 p3 pos : Pos} (he : PE X e te) : PE X (.Subscript e (.Slice none none (some (.UnaryOp .USub (.Constant (.int 1) k p1) p2)) p3) pos) (tRevT X.K te) := by
  refine ⟨fun pins s σ H Q I h => ?_⟩
  refine Subscript_ (thn (he.run pins s σ H _ I h) fun v s1 ⟨x, H1, I1, r1, q1⟩ => ?_)
  obtain ⟨a, xs, ex, hx⟩ := q1
  subst ex
  cases r1
  have hst : PO X (some (.UnaryOp .USub (.Constant (.int 1) k p1) p2)) (tPart (tUn (rU fun i => .int (-i)) (tC (.int 1)))) := po_some (pe_un un_neg pe_int)
  refine wpAny_Slice (thn (po_none.run pins s1 σ H1 (fun o H2 => o = none ∧ H2 = H1) I1 ⟨rfl, rfl⟩) fun vl s2 ⟨l, H2, I2, pl, el, e2⟩ => ?_)
  subst el e2
  refine thn (po_none.run pins s2 σ H2 (fun o H3 => o = none ∧ H3 = H2) I2 ⟨rfl, rfl⟩) fun vu s3 ⟨u, H3, I3, pu, eu, e3⟩ => ?_
  subst eu e3
  refine thn (hst.run pins s3 σ H3 (fun o H4 => o = some (-1) ∧ H4 = H3) I3 ⟨1, rfl, -1, rfl, rfl, rfl⟩) fun vs s4 ⟨o, H4, I4, ps, eo, e4⟩ => ?_
  subst eo e4
  have I5 : Inv X pins σ H4 { s4 with heap := s4.heap.push { cls := .type "slice", data := .fields #[vl, vu, vs] } } := I4.kept (t' := s4.toks) fun b ob q => Heap.get?_push_of_some _ q
  show wpAny (model X.prog X.w) X.A (subscriptTail e (.Slice none none (some (.UnaryOp .USub (.Constant (.int 1) k p1) p2)) p3) (.ref a) (.ref s4.heap.objs.size)) (EP X pins σ Q) X.xe { s4 with heap := s4.heap.push { cls := .type "slice", data := .fields #[vl, vu, vs] } }
  rcases hx with ⟨hx, q⟩ | ⟨hx, q⟩
  · obtain ⟨its, r, ht, hz⟩ := I5.list hx
    have hlen := r.length
    refine tail_any (ops := [.ref a, .ref s4.heap.objs.size]) ht.isList.typeIs (PySem.slot_list_getitem.lookup) ?_ (by with_unfolding_all rfl)
    refine wpAny_getItem_list_slice ht.isList (Heap.IsSliceOf.new _ vl vu vs) pl pu ps (by decide) ?_ (by rw [List.size_toArray]; omega)
    rw [PySem.W.krv_pick]
    refine ⟨.ref _, _, I5.laid (t' := s4.toks) (o := .lst xs.reverse) (fun b ob q => Heap.get?_push_of_some _ q) (Nat.le_refl _) ?_, rfl, q _ (I5.hok.fresh (Nat.le_refl _))⟩
    exact ⟨by rw [List.length_reverse]; exact hz, _, 0, r.reverse, Heap.get?_push_size _ rfl⟩
  · obtain ⟨its, r, ht, hz⟩ := I5.tuple hx
    have hlen := r.length
    refine tail_any (ops := [.ref a, .ref s4.heap.objs.size]) ht.typeIs (PyProof.Rows.slot_tuple_getitem.lookup) ?_ (by with_unfolding_all rfl)
    refine PySem.HTr.getItem_tuple_back ht (Heap.IsSliceOf.new _ vl vu vs) pl pu ps ?_ (by rw [List.size_toArray]; omega)
    refine ⟨.ref _, _, I5.laid (t' := s4.toks) (o := .tup xs.reverse) (fun b ob q => Heap.get?_push_of_some _ q) (Nat.le_refl _) ?_, rfl, q _ (I5.hok.fresh (Nat.le_refl _))⟩
    exact ⟨by rw [List.length_reverse]; exact hz, _, r.reverse, IsTup.new _ _⟩
def revA (lh : LH) (d : D) : Ro := match d with
  | .tup xs => .v (.tup xs.reverse)
  | d => (match asL lh d with
    | some xs => .l xs.reverse
    | none => .no)
theorem ee_revA {X : Cx} {W : WX} {e : Expr} {m : EM} {pos : Pos} (al : Bool) {k : Nat} {p1 p2 p3 : Pos} (he : EE X W e m) : EE X W (.Subscript e (.Slice none none (some (.UnaryOp .USub (.Constant (.int 1) k p1) p2)) p3) pos) (e1 al revA m) :=
  peImp (pe_revT he) fun σ H Q ⟨A, ρ, τ, lh, er, S, pr⟩ => ⟨A, ρ, τ, lh, er, S, PRg.thn pr fun d lh1 ρ1 H1 x s1 S1 r1 pr1 => by
    have pr4 := PRo.of pr1
    unfold revA at pr4
    split at pr4
    · cases r1 with
      | @tup a vs _ q r => exact ⟨a, vs, rfl, .inr ⟨q, PRo.tup pr4 S1 r.reverse⟩⟩
    · split at pr4
      · rename_i xs h1
        obtain ⟨a, vs, rfl, hq, rs⟩ := asL_rel S1 r1 h1
        exact ⟨a, vs, rfl, .inl ⟨hq, PRo.new pr4 S1 rs.reverse⟩⟩
      · exact pr4.elim⟩
/-! ### constants of a module -/
theorem strs_rel {G : Gx} {A : Addr → Prop} {ρ : List Addr} {H : Hp} {K : PySem.W.Frag} : ∀ ss : List Str, VRs G A ρ H ((ss.map He.Dv.str).map (He.Dv.v K)) (ss.map D.str)
  | [] => .nil
  | s :: ss => .cons (.str s) (strs_rel ss)
theorem ee_tupG {X : Cx} {W : WX} {pos : Pos} {K : PySem.W.Frag} {mg : Str → Option Value} {x : Str} {ss : List Str} (e1 : X.K = K) (e2 : X.mg = mg) (hg : Gl X x) (hm : mg x = some (.ref (He.ga K x))) (ht : He.tupB K x (ss.map .str) = true) (hd : (x == ("__debug__" : Str)) = false := by decide) : EE X W (.Name x pos) (eC (.tup (ss.map .str))) := by
  subst e1 e2
  exact ee_glob (v := .ref (He.ga X.K x)) hm rfl (fun A ρ H => .tup (He.tupB_ok ht H) (strs_rel ss)) hg hd
theorem ee_intG {X : Cx} {W : WX} {pos : Pos} {mg : Str → Option Value} {x : Str} {i : Int} (e2 : X.mg = mg) (hg : Gl X x) (hm : ∃ t, mg x = some (.int i t)) (hd : (x == ("__debug__" : Str)) = false := by decide) : EE X W (.Name x pos) (eC (.int i)) := by
  subst e2
  obtain ⟨t, hm⟩ := hm
  exact ee_glob (v := .int i) hm ⟨t, rfl⟩ (fun A ρ H => .int i) hg hd
end Tb

/-! tests that are chains; x.pop() -/
namespace Tb
open PySem PySem.Spec PyProof.Rows L2
def tBl (m : EM) : TM := fun τ lh => (m τ lh).bind fun d lh => match d with
  | .bl b => .ok b lh
  | _ => .stuck
section
variable {X : Cx} {W : WX} {a b c o e : Expr} {m1 m2 m3 mo m : EM} {pos cpos apos : Pos} {op op' : CmpOp} {g g' : LH → D → D → Ro}
theorem tBl_imp {m : EM} {σ : L2.St} {H : Hp} {Q : Bool → Hp → Prop} (h : tT (gx X) W (tBl m) σ H Q) : tE (gx X) W m σ H (fun x H' => ∃ k, x = .bl k ∧ Q k H') := by
  obtain ⟨A, ρ, τ, lh, er, S, pr⟩ := h
  refine ⟨A, ρ, τ, lh, er, S, PRg.thn pr fun d lh1 ρ1 H1 x s1 S1 r1 pr1 => ?_⟩
  cases d with
  | bl b =>
    cases r1
    exact ⟨b, rfl, pr1 ρ1 H1 b (Stp.refl _ _) S1 rfl⟩
  | _ => exact pr1.elim
theorem et_chain2 (ho : OpD X (compareOp op) g) (ho' : OpD X (compareOp op') g') (ha : EE X W a m1) (hb : EE X W b m2) (hc : EE X W c m3) (hm : lastMarks [op, op'] [b, c] = false := by rfl) : ET X W (.Compare a [op, op'] [b, c] pos) (tBl (eChain g g' m1 m2 m3)) :=
  ptImp (pt_chain (ho false) (ho' false) ha hb hc hm) fun σ H Q hQ => by
    obtain ⟨A, ρ, τ, lh, er, S, pr⟩ := tBl_imp hQ
    exact ⟨A, ρ, τ, lh, er, S, PRg.thn pr fun d lh1 ρ1 H1 x s1 S1 r1 pr1 => ⟨A, ρ1, τ, lh1, er.stp s1, S1, PRg.thn pr1 fun e lh2 ρ2 H2 y s2 S2 r2 pr2 => ⟨A, ρ2, lh2, d, e, S2, r1.stp s2, r2, by
      cases q : g lh2 d e with
      | v d' =>
        rw [q] at pr2
        cases d' with
        | bl k =>
          intro ρ3 H3 v s3 S3 r3
          cases r3
          cases k with
          | true => exact ⟨true, rfl, iteT ⟨A, ρ3, τ, lh2, ((er.stp s1).stp s2).stp s3, S3, PRg.thn (PRg.stp s3 pr2) fun z lh4 ρ4 H4 w s4 S4 r4 pr4 => ⟨A, ρ4, lh4, e, z, S4, (r2.stp s3).stp s4, r4, PRo.of pr4⟩⟩⟩
          | false => exact ⟨false, rfl, iteF (pr2 ρ3 H3 _ s3 S3 (.bl false))⟩
        | _ => exact pr2.elim
      | l xs => rw [q] at pr2; exact pr2.elim
      | no => rw [q] at pr2; exact pr2.elim⟩⟩⟩
theorem ee_pop (ho : EE X W o mo) (hb : attributeBase o "pop" X.env (eval o X.env) = eval o X.env := by rfl)
    (h3 : (apos.endLine == cpos.line) = true := by rfl) : EE X W (.Call (.Attribute o "pop" apos) [] [] cpos) (eMt0 popG mo) :=
  ee_mt0 PySem.F.slot_list_pop PySem.F.type_list_pop mt_pop (fun A ρ H a vs xs ys d Q ha rs hg k => by
    unfold popG at hg
    split at hg
    · rename_i y hy
      cases hg
      obtain ⟨v, hv, rv⟩ := rs.get hy
      refine ⟨a, vs, v, rfl, rfl, ha, by rw [rs.length]; exact hv, k v _ ?_ rv⟩
      rw [List.dropLast_eq_take, List.dropLast_eq_take, rs.length]
      exact rs.take _
    · cases hg) ho hb h3
end
end Tb

/-! A statement that keeps to itself: run on an empty logical heap, what it leaves told by value. -/
namespace Tb
open PySem PySem.Spec PyProof.Rows L2

def clr (f : D → Option D) (τ : Tau) : Tau := τ.map fun o => o.bind f
def sP (s : SM) : SM := fun τ lh => match s (clr (frz [] fuel) τ) [] with
  | .nx τ' lh' => .nx (clr (frz lh' fuel) τ') lh
  | .bk τ' lh' => .bk (clr (frz lh' fuel) τ') lh
  | .rt d lh' => (match frz lh' fuel d with
    | some d' => .rt d' lh
    | none => .stuck)
  | .exc c τ' lh' => .exc c (clr (frz lh' fuel) τ') lh
  | .stuck => .stuck
section
variable {G : Gx} {W : WX} {A B : Addr → Prop} {ρ ρ' ρ2 : List Addr} {H H' : Hp} {lh lh' : LH} {σ : L2.St} {τ : Tau}
theorem ER.clr {f : D → Option D} (e : ER G A ρ H σ τ) (h : ∀ {v : V} {d d' : D}, VR G A ρ H v d → f d = some d' → VR G B ρ2 H v d') : ER G B ρ2 H σ (Tb.clr f τ) := ⟨by unfold Tb.clr; rw [List.length_map]; exact e.len, fun i d q => by
  unfold Tb.clr at q
  rw [List.getElem?_map] at q
  cases q1 : τ[i]? with
  | none => rw [q1] at q; cases q
  | some o =>
    rw [q1] at q
    cases o with
    | none => cases q
    | some d1 =>
      have q2 : f d1 = some d := by simpa using q
      obtain ⟨v, h1, h2⟩ := e.at_ i d1 q1
      exact ⟨v, h1, h h2 q2⟩⟩
theorem sP_imp {E : Ends} {s : SM} (h : tS G W (sP s) E σ H) : tS G W s E σ H := by
  obtain ⟨A, ρ, τ, lh, er, S, pr⟩ := h
  have S0 : SR G (fun a => A a ∨ a ∈ ρ) [] H [] := SR.none_ fun a z => z.elim (S.av a) fun z => by obtain ⟨u, e, _⟩ := S.mut z; exact ⟨u, e⟩
  have e0 : ER G (fun a => A a ∨ a ∈ ρ) [] H σ (Tb.clr (frz [] fuel) τ) := er.clr fun r e => frz_genL (lh := []) (fun m a o _ z => by simp at z) (fun a o ho n1 n2 => ⟨fun z => z.elim n1 n2, by simp⟩) (fun z => absurd rfl z) _ r e
  refine ⟨fun a => A a ∨ a ∈ ρ, [], _, [], e0, S0, ?_⟩
  have bk : ∀ {ρ' : List Addr} {H' : Hp} {lh' : LH} {σ' : L2.St} {τ' : Tau}, Stp [] H ρ' H' → SR G (fun a => A a ∨ a ∈ ρ) ρ' H' lh' → ER G (fun a => A a ∨ a ∈ ρ) ρ' H' σ' τ' → ER G A ρ H' σ' (Tb.clr (frz lh' fuel) τ') := fun s S' e => e.clr fun r z => frz_gen S' (fun a o ho n1 n2 => ⟨fun z => n1 (.inl z), fun z => n1 (.inr z)⟩) (s.new_ S) _ r z
  unfold sP at pr
  cases e : s (Tb.clr (frz [] fuel) τ) [] with
  | nx τ' lh' =>
    rw [e] at pr
    exact fun ρ' H' σ' s S' e' => pr ρ H' σ' (s.widen ρ) (S.widen s) (bk s S' e')
  | bk τ' lh' =>
    rw [e] at pr
    exact fun ρ' H' σ' s S' e' => pr ρ H' σ' (s.widen ρ) (S.widen s) (bk s S' e')
  | exc c τ' lh' =>
    rw [e] at pr
    exact fun ρ' H' σ' s S' e' => pr ρ H' σ' (s.widen ρ) (S.widen s) (bk s S' e')
  | rt d lh' =>
    rw [e] at pr
    intro ρ' H' v s S' rv
    cases e2 : frz lh' fuel d with
    | none => simp only [e2] at pr; exact pr.elim
    | some d' =>
      simp only [e2] at pr
      exact pr ρ H' v (s.widen ρ) (S.widen s) (frz_gen S' (fun a o ho n1 n2 => ⟨fun z => n1 (.inl z), fun z => n1 (.inr z)⟩) (s.new_ S) _ rv e2)
  | stuck => rw [e] at pr; exact pr.elim
end
theorem es_P {X : Cx} {W : WX} {st : Stmt} {s : SM} (h : ES X W st s) : ES X W st (sP s) := psImp h fun E σ H => sP_imp
theorem ess_P {X : Cx} {W : WX} {st : List Stmt} {s : SM} (h : ESs X W st s) : ESs X W st (sP s) := pssImp h fun E σ H => sP_imp
end Tb

/-! Instances of classes without an __init__ of their own. -/
namespace Tb
open PySem PySem.Spec PyProof.Rows L2
/-- what is asked of such a class -/
structure Mk0 (K : PySem.W.Frag) (C : Addr) : Prop where
  makes : PySem.W.makesIn K C = true
  init : PySem.W.findIn K (.ref C) "__init__" = some (some (.builtin "object.__init__"))
  kp : PySem.W.keepIn K (.ref C) = true
def mk0B (K : PySem.W.Frag) (x : Str) : Bool := PySem.W.makesIn K (He.ga K x) && (He.eqO (PySem.W.findIn K (.ref (He.ga K x)) "__init__") (some (some (.builtin "object.__init__"))) && PySem.W.keepIn K (.ref (He.ga K x)))
theorem mk0B_ok {K : PySem.W.Frag} {x : Str} (h : mk0B K x = true) : Mk0 K (He.ga K x) := by
  obtain ⟨h1, h2⟩ := He.ba h
  obtain ⟨h2, h3⟩ := He.ba h2
  exact ⟨h1, He.eqO_ok h2, h3⟩
section
variable {X : Cx} {W : WX} {C : Addr} {x : Str} {p pos : Pos}
theorem pe_mk0 (M : Mk0 X.K C) (hg : Gl X x) (hm : X.mg x = some (.ref C)) (hdb : (x == ("__debug__" : Str)) = false := by decide) :
    PE X (.Call (.Name x p) [] [] pos) (fun σ H Q => ∀ a dx, H a = none → H dx = none → dx ≠ a → Q (.ref a) (upd (upd H dx (.own a)) a (.ins C dx []))) := by
  refine ⟨fun pins s σ H Q I h => ?_⟩
  refine wpAny_Call_Name_kw (ld_glob I hg hm ?_ hdb)
  refine PySem.W.callWith_K0 I.kIn M.kp ?_
  have hq := h (s.heap.objs.size + 1) s.heap.objs.size (I.hok.fresh (Nat.le_succ _)) (I.hok.fresh (Nat.le_refl _)) (Nat.ne_of_lt (Nat.lt_succ_self _))
  have I2 := Inv.made (C := C) I
  have Y := PySem.W.makes_of (M := model X.prog X.w) I.kIn M.makes
  have g1 : ((s.heap.push PySem.W.emptyDict).push (PySem.W.instObj C s.heap.objs.size)).get? (s.heap.objs.size + 1) = some (PySem.W.instObj C s.heap.objs.size) := by
    have := Heap.get?_push_size (s.heap.push PySem.W.emptyDict) (o := PySem.W.instObj C s.heap.objs.size) rfl
    rwa [Heap.size_push] at this
  have t1 : PySem.W.Looks (model X.prog X.w) ((s.heap.push PySem.W.emptyDict).push (PySem.W.instObj C s.heap.objs.size)) (typeOf (.ref (s.heap.objs.size + 1))) (.ref C) := (PySem.W.Looks.ld g1).andThen .now
  have t2 : PySem.W.Looks (model X.prog X.w) ((s.heap.push PySem.W.emptyDict).push (PySem.W.instObj C s.heap.objs.size)) (isInstance (.ref (s.heap.objs.size + 1)) (.type "object")) true :=
    t1.andThen (Y.top.keeps fun b o e => Heap.get?_push_of_some _ (Heap.get?_push_of_some _ e))
  refine wpAny_call (make_map0 I.kIn M.makes M.init (fun self => PySem.W.Looks.of_pure (PySem.W.oi_bind self)) ?_)
  refine codeAny_call_builtin PySem.W.oi_plain PySem.W.entry_oi (PySem.W.check_slot PySem.W.oi_kind PySem.W.oi_split t2 (PySem.W.oi_args _) ?_)
  rw [PySem.W.oi_run]
  exact wpAny_pure ⟨rfl, V.ref (s.heap.objs.size + 1), _, I2, rfl, hq⟩
/-- C() -/
def eMake0 (c : Str) : EM := fun _ lh => .ok (.loc lh.length) (lh ++ [.ins c []])
theorem ee_make0 (M : Mk0 X.K (He.ga X.K x)) (hm : X.mg x = some (.ref (He.ga X.K x))) (hg : Gl X x := by rfl) (hdb : (x == ("__debug__" : Str)) = false := by decide) : EE X W (.Call (.Name x p) [] [] pos) (eMake0 x) :=
  peImp (pe_mk0 M hg hm hdb) fun σ H Q ⟨A, ρ, τ, lh, er, S, pr⟩ a dx h1 h2 h3 => by
    obtain ⟨t1, t2⟩ := make_rel (c := x) S h1 h2 h3
    have el : ρ.length = lh.length := S.len
    refine pr _ _ _ t1 t2 (.loc ?_)
    rw [← el]
    simp
end
@[simp] theorem z_make0 {c : Str} {τ : Tau} {lh : LH} : eMake0 c τ lh = .ok (.loc lh.length) (lh ++ [.ins c []]) := rfl
end Tb
namespace Tb
open PySem PySem.Spec PyProof.Rows L2
/-! ### list(range(i, j, k)) -/
def rngN (i k : Int) (n : Nat) : List D := (List.range n).map fun m => D.int (i + (m : Nat) * k)
def eLisRng3 (al : Bool) (m : AM) : EM := fun τ lh => (m τ lh).bind fun ds lh => match ds with
  | [.int i, .int j, .int k] => if k ≠ 0 ∧ k.natAbs < 1073741824 ∧ Builtin.Range.small i j k = true ∧ (0 ≤ Builtin.Range.rangeSize i j k ∧ Builtin.Range.rangeSize i j k ≤ 2 ^ 24) then (Ro.l (rngN i k (Builtin.Range.rangeSize i j k).toNat)).res al lh else .stuck
  | _ => .stuck
theorem rngN_rel {G : Gx} {A : Addr → Prop} {ρ : List Addr} {H : Hp} (i k : Int) (n : Nat) : VRs G A ρ H ((List.range n).map fun m => V.int (i + (m : Nat) * k)) (rngN i k n) := by
  unfold rngN
  generalize List.range n = l
  induction l with
  | nil => exact .nil
  | cons a l ih => exact .cons (.int _) ih
theorem vals_step {i k : Int} {acc : Array Value} {n : Nat} (h : PySem.ItemsOf (fun m v => ∃ t, v = .int (i + m * k) t) acc n) : Vals ((List.range n).map fun m => V.int (i + (m : Nat) * k)) acc.toList := by
  have e : acc.toList.length = n := by rw [Array.length_toList]; exact h.1
  rw [← e]
  refine vals_of_get acc.toList _ fun j u hj => ?_
  obtain ⟨t, rfl⟩ := h.2 j u (by rw [← hj, Array.getElem?_toList])
  exact ⟨t, rfl⟩
section
variable {X : Cx} {W : WX} {a b c : Expr} {m : AM} {p p2 pos pos2 : Pos} {ta : TA}
theorem range3_ok (hg : Gl X "range") (hm : X.mg "range" = none) (ha : PA X [a, b, c] ta) (hs : starEach [a, b, c] X.env = (false, eval a X.env) :: starEach [b, c] X.env) (hpl : (backTo pos2 (starEach [b, c] X.env)).any (·.1) = false)
    (pins : List (Addr × Obj)) (s : Shared) (σ : L2.St) (H : Hp) (Q : Int → Int → Int → Hp → Prop) (I : L2.Inv X pins σ H s) (h : ta σ H fun vs H1 => ∃ i j k, vs = [.int i, .int j, .int k] ∧ k ≠ 0 ∧ k.natAbs < 1073741824 ∧ Q i j k H1) :
    wpAny (model X.prog X.w) X.A (eval (.Call (.Name "range" p2) [a, b, c] [] pos2) X.env) (fun x s' => ∃ r i j k t u v H', x = .ref r ∧ IsRange s'.heap r i j k t u v ∧ L2.Inv X pins σ H' s' ∧ Q i j k H') X.xe s := by
  refine Call_ (ld_blt I hg hm boot_range (PyProof.Rows.callWith_type1 (thn (ha.run pos2 pins s σ H _ I h) fun us s1 ⟨vs, H1, I1, r1, q1⟩ => ?_) hs hpl))
  obtain ⟨i, j, k, rfl, c0, c1, q⟩ := q1
  cases r1 with
  | cons ra rr =>
    cases rr with
    | cons rb rr =>
      cases rr with
      | cons rc rr =>
        cases rr
        obtain ⟨t, rfl⟩ := ra
        obtain ⟨u, rfl⟩ := rb
        obtain ⟨v, rfl⟩ := rc
        refine call_range_3 c0 ⟨_, i, j, k, _, _, _, H1, rfl, IsRange.new _ _ _ _ _ _ _, I1.kept fun b u e => Heap.get?_push_of_some _ e, q⟩ (.inl (PyProof.noPylong_small (by omega)))
theorem ee_lisRng3 (al : Bool) (hc : X.calm = true) (h : EA X W [a, b, c] m) (hm : X.mg "list" = none) (hm2 : X.mg "range" = none) (hg : Gl X "list" := by rfl) (hg2 : Gl X "range" := by rfl)
    (hs : starEach [a, b, c] X.env = (false, eval a X.env) :: starEach [b, c] X.env := by rfl) (hpl : (backTo pos2 (starEach [b, c] X.env)).any (·.1) = false := by rfl)
    (na2 : starEach [.Call (.Name "range" p2) [a, b, c] [] pos2] X.env = (false, eval (.Call (.Name "range" p2) [a, b, c] [] pos2) X.env) :: starEach [] X.env := by rfl) : EE X W (.Call (.Name "list" p) [.Call (.Name "range" p2) [a, b, c] [] pos2] [] pos) (eLisRng3 al m) := by
  refine ⟨fun pins s σ H Q I ⟨A, ρ, τ, lh, er, S, pr⟩ => ?_⟩
  refine Call_ (ld_blt I hg hm boot_list (PyProof.Rows.callWith_type1 (args_cons (thn (range3_ok hg2 hm2 h hs hpl pins s σ H (fun i j k H1 => (Builtin.Range.small i j k = true ∧ (0 ≤ Builtin.Range.rangeSize i j k ∧ Builtin.Range.rangeSize i j k ≤ 2 ^ 24)) ∧ ∀ q, H1 q = none → Q (.ref q) (upd H1 q (.lst ((List.range (Builtin.Range.rangeSize i j k).toNat).map fun m => V.int (i + (m : Nat) * k))))) I
    ⟨A, ρ, τ, lh, er, S, PRg.thn pr fun ds lh1 ρ1 H1 xs s1 S1 r1 pr1 => ?_⟩) fun x s1 ⟨r, i, j, k, t, u, v, H1, ex, hr, I1, ok, q⟩ => args_nil ?_) na2) na2))
  · split at pr1
    · rename_i i j k
      split at pr1
      · rename_i hj
        cases r1 with
        | cons ra rr =>
          cases rr with
          | cons rb rr =>
            cases rr with
            | cons rc rr =>
              cases rr
              cases ra
              cases rb
              cases rc
              exact ⟨i, j, k, rfl, hj.1, hj.2.1, hj.2.2, PRo.new (PRo.of pr1) S1 (rngN_rel i k _)⟩
      · exact pr1.elim
    · exact pr1.elim
  · subst ex
    refine call_list_range (n := (Builtin.Range.rangeSize i j k).toNat) (I1.ok.hd hc) hr ok.1 (by rw [Int.toNat_of_nonneg ok.2.1]) (by have := ok.2.2; omega) fun h' tk acc c' hk e' hi => ?_
    refine ⟨.ref s1.heap.objs.size, upd H1 s1.heap.objs.size (.lst ((List.range (Builtin.Range.rangeSize i j k).toNat).map fun m => V.int (i + (m : Nat) * k))), I1.laid hk (Nat.le_refl _) (show ObjOk X.prog X.w _ _ _ (.lst _) from ⟨?_, acc.toList, c', vals_step hi, ?_⟩), rfl, q _ (I1.hok.fresh (Nat.le_refl _))⟩
    · rw [List.length_map, List.length_range, sizeLine_eq]
      have := ok.2.2
      omega
    · rw [Array.toArray_toList]; exact e'
end
end Tb

/-! try: .. except C as n: return v, v told by the class of what was raised. -/
namespace Tb
open PySem PySem.Spec PyProof.Rows L2
/-- a value without a place -/
def flatOf : D → Option V
  | .non => some .non
  | .bl b => some (.bl b)
  | .int i => some (.int i)
  | .str s => some (.str s)
  | _ => none
theorem flatOf_rel {G : Gx} {A : Addr → Prop} {ρ : List Addr} {H : Hp} {d : D} {v : V} (h : flatOf d = some v) : VR G A ρ H v d := by
  cases d <;> cases h <;> constructor
def sTryR (m : SM) (cs : List (Str × D)) : SM := fun τ lh => match m τ lh with
  | .nx τ lh => .nx τ lh
  | .rt d lh => .rt d lh
  | .bk τ lh => .bk τ lh
  | .exc c _ lh => (match cs.lookup c with
    | some d => .rt d lh
    | none => .stuck)
  | .stuck => .stuck
/-- what a handler's expression gives: v, where slot i holds the exception at a -/
abbrev HV (X : Cx) (i : Nat) (a : Addr) (e : Expr) (v : V) : Prop := PE X e (fun σ H Q => σ[i]? = some (some (.ref a)) ∧ Q v H)
def excOk (K : PySem.W.Frag) (c : Str) : Bool := He.eqO (PySem.W.findIn K (.ref (He.ga K c)) "__getattribute__") (some (some (.builtin "BaseException.__getattribute__"))) && (He.eqO (PySem.W.findIn K (.ref (He.ga K c)) "__getattr__") (some none) && (decide (PySem.W.subIn K (.ref (He.ga K c)) (.type "BaseException") = some true) && (PySem.W.hasDictIn K (He.ga K c) &&
  (He.eqO (PySem.W.findIn K (.ref (He.ga K c)) "__class__") (some (some (.builtin "object.__class__"))) && (He.eqO (PySem.W.specialIn K (.builtin "object.__class__") "__get__") (some (some (.builtin "getset_descriptor.__get__"))) && (decide (PySem.W.takesIn K (.builtin "object.__class__") = some true) && decide (PySem.W.mroIn K (He.ga K c) (.type "object") = some true)))))))
theorem excOk_ok {K : PySem.W.Frag} {c : Str} (h : excOk K c = true) : ExcC K (He.ga K c) := by
  unfold excOk at h
  obtain ⟨h1, h⟩ := He.ba h
  obtain ⟨h2, h⟩ := He.ba h
  obtain ⟨h3, h⟩ := He.ba h
  obtain ⟨h4, h⟩ := He.ba h
  obtain ⟨h5, h⟩ := He.ba h
  obtain ⟨h6, h⟩ := He.ba h
  obtain ⟨h7, h8⟩ := He.ba h
  exact ⟨He.eqO_ok h1, He.eqO_ok h2, of_decide_eq_true h3, h4, He.eqO_ok h5, He.eqO_ok h6, of_decide_eq_true h7, of_decide_eq_true h8⟩
section
variable {X : Cx} {W : WX} {i : Nat} {a : Addr} {oe : Obj} {pn : List (Addr × Obj)} {n dd c : Str} {p p2 p3 pos : Pos} {e : Expr} {v : V}
theorem hv_str {s : Str} {j : Option Str} : HV X i a (.Constant (.str s) k pos) (.str s) := peImp pe_str fun σ H Q h => h.2
theorem hv_bl {b : Bool} : HV X i a (.Constant (.bool b) k pos) (.bl b) := peImp pe_bl fun σ H Q h => h.2
theorem hv_isE {b : Bool} (C : ExcC X.K (He.ga X.K c)) (hz : Zc (.ref (He.ga X.K c)) none oe) (hf : ∃ vs, oe.data = .fields vs) (hk : PySem.W.kitOne X.K (.ref (He.ga X.K c)) (.ref (He.ga X.K dd)) = some b) (hm : X.mg "isinstance" = none) (hx : X.mg dd = some (.ref (He.ga X.K dd)))
    (hN : X.N[i]? = some n := by rfl) (hv : Vis X.env.scope n := by first | exact Or.inl rfl | exact Or.inr (Or.inl rfl) | exact Or.inr (Or.inr rfl)) (hd1 : (n == ("__debug__" : Str)) = false := by decide) (hcd : (n == ("__classdict__" : Str)) = false := by decide) (hgx : Gl X dd := by rfl) (hg : Gl X "isinstance" := by rfl) (hdb : (dd == ("__debug__" : Str)) = false := by decide)
    (hs1 : starEach [.Name n p2, .Name dd p3] X.env = (false, eval (.Name n p2) X.env) :: starEach [.Name dd p3] X.env := by rfl) (hpl : (backTo pos (starEach [.Name dd p3] X.env)).any (·.1) = false := by rfl) (hs2 : starEach [.Name dd p3] X.env = (false, eval (.Name dd p3) X.env) :: starEach [] X.env := by rfl) :
    HV (X.suite a ((a, oe) :: pn)) i a (.Call (.Name "isinstance" p) [.Name n p2, .Name dd p3] [] pos) (.bl b) :=
  peImp (X := X.suite a ((a, oe) :: pn)) (pe_callB (X := X.suite a ((a, oe) :: pn)) (call_isE (X := X) C hz hf) hg hm (by rfl) (pa_cons (pe_var (i := i) hN hv hd1 hcd) (pa_cons (pe_glob (v := .ref (He.ga X.K dd)) hgx hx rfl hdb) pa_nil hs2) hs1) (he := hs1) (hpl := hpl)) fun σ H Q h => ⟨_, h.1, _, _, _, rfl, fun u r => r, hk, h.2⟩
theorem hv_ifT {c x y : Expr} (h : HV X i a c (.bl true)) (hx : HV X i a x v) {u : V} (hy : HV X i a y u) (he : ∀ whole, PySem.isTrue c X.env whole = (do let v ← whole; standAt c.pos; holding [v] (truthy v)) := by intro _; rfl) : HV X i a (.IfExp c x y pos) v :=
  peImp (pe_ifExp (pt_truth h he) hx hy) fun σ H Q h => ⟨h.1, true, rfl, iteT ⟨h.1, h.2⟩⟩
theorem hv_ifF {c x y : Expr} (h : HV X i a c (.bl false)) {u : V} (hx : HV X i a x u) (hy : HV X i a y v) (he : ∀ whole, PySem.isTrue c X.env whole = (do let v ← whole; standAt c.pos; holding [v] (truthy v)) := by intro _; rfl) : HV X i a (.IfExp c x y pos) v :=
  peImp (pe_ifExp (pt_truth h he) hx hy) fun σ H Q h => ⟨h.1, false, rfl, iteF ⟨h.1, h.2⟩⟩
theorem hv_ret (h : HV X i a e v) : PSs X [.Return (some e) pos] (fun E σ H => σ[i]? = some (some (.ref a)) ∧ E.rt v H) := pssImp (pss_one (ps_ret h)) fun E σ H z => z
end
section
variable {X : Cx} {W : WX} {m : SM} {x n : Str} {cB : Value} {body suite : List Stmt} {b₀ : Stmt} {np pos pos' : Pos}
theorem es_tryR (i : Nat) (cs : List (Str × D)) (hs : X.stack = X.env :: X.outer) (hf : X.env.frame = some X.env.locals) (hN : X.N.Nodup) (hc : Names X x cB) (tk : Takes X W)
    (hcs : ∀ p ∈ cs, PySem.W.exmOne X.K (.ref (He.ga X.K p.1)) cB = some true)
    (hb : ∀ (W' : WX) (pn : List (Addr × Obj)) (xe : Value → Shared → Prop), Takes (X.tr pn xe) W' → PassesOwn (model X.prog X.w) X.A X.env xe → ESs (X.tr pn xe) W' body m)
    (hh : ∀ p ∈ cs, ∃ v, flatOf p.2 = some v ∧ ∀ (a : Addr) (oe : Obj) (pn : List (Addr × Obj)), Zc (.ref (He.ga X.K p.1)) none oe → (∃ vs, oe.data = .fields vs) → PSs (X.suite a ((a, oe) :: pn)) (b₀ :: suite) (fun E σ H => σ[i]? = some (some (.ref a)) ∧ E.rt v H))
    (hi : X.N[i]? = some n := by rfl) (hln : X.env.kindOf n = some .local := by rfl) : ES X W (.Try body [.ExceptHandler (some (.Name x np)) (some n) (b₀ :: suite) pos'] [] [] pos) (sTryR m cs) := by
  refine psImp (ps_try_as (tb := fun W' => tS (gx X) W' m) (ts := fun a cls d E σ H => (∃ σ0, σ = List.set σ0 i (some (.ref a))) ∧ ∃ p ∈ cs, cls = .ref (He.ga X.K p.1) ∧ d = none ∧ ∀ v, flatOf p.2 = some v → E.rt v H) hs hf hN hi hln hc tk hb fun a oe cls d pn hz hff => ⟨fun pins s σ H E I h => ?_⟩) fun E σ H ⟨A, ρ, τ, lh, er, S, pr⟩ => ⟨A, ρ, τ, lh, er, S, ?_⟩
  · obtain ⟨⟨σ0, e0⟩, p, hp, rfl, rfl, hv⟩ := h
    obtain ⟨v, e1, h1⟩ := hh p hp
    have hl : i < σ0.length := by
      have z := I.len
      rw [e0, List.length_set] at z
      rw [z]
      exact (List.getElem?_eq_some_iff.mp hi).1
    exact (h1 a oe pn hz hff).run pins s σ H E I ⟨by rw [e0, List.getElem?_set_self hl], hv v e1⟩
  · unfold sTryR at pr
    cases q : m τ lh with
    | nx τ' lh' => rw [q] at pr; exact pr
    | rt d lh' => rw [q] at pr; exact pr
    | bk τ' lh' => rw [q] at pr; exact pr
    | stuck => rw [q] at pr; exact pr.elim
    | exc c τ' lh' =>
      rw [q] at pr
      simp only at pr
      cases l : cs.lookup c with
      | none => rw [l] at pr; exact pr.elim
      | some d =>
        rw [l] at pr
        have hm := lookup_mem l
        exact fun ρ' H' σ' s S' e' => ⟨true, hcs _ hm, fun _ a ha => ⟨⟨σ', rfl⟩, (c, d), hm, rfl, rfl, fun v hv => pr ρ' H' v s S' (flatOf_rel hv)⟩, fun z => by cases z⟩
end
@[simp] theorem z_tryR {m : SM} {cs : List (Str × D)} {τ : Tau} {lh : LH} : sTryR m cs τ lh = (match m τ lh with
  | .nx τ lh => .nx τ lh
  | .rt d lh => .rt d lh
  | .bk τ lh => .bk τ lh
  | .exc c _ lh => (match cs.lookup c with
    | some d => .rt d lh
    | none => .stuck)
  | .stuck => .stuck) := rfl
end Tb
namespace Tb
open PySem PySem.Spec PyProof.Rows L2
/-! ### f() -/
section
variable {X : Cx} {W : WX} {k : Nat} {f : Addr} {x : Str} {p pos : Pos} {fm : FM}
theorem ec_callS0 (tk : Takes X W) (F : FOk X.prog X.w X.K X.mg X.base k f 0 fm) (hr : Room k X.A) (hm : X.mg x = some (.ref f)) (hk : PySem.W.keepIn X.K (.ref f) = true)
    (hW : ∀ c σ σ' H, W c none σ H → W c none σ' H := by intro _ _ _ _ h; exact h) (hg : Gl X x := by rfl) (hdb : (x == ("__debug__" : Str)) = false := by decide) : EE X W (.Call (.Name x p) [] [] pos) (eCallS 0 fm aNil) := by
  obtain ⟨fd, ps, F, hb⟩ := F
  refine peImp (pe_call0 (E := fun cls d H => ∀ σ, W cls d σ H) F hr hg hm hk hb (dvs := []) .nil (passes_call tk fun cls d σ H h => h σ) hdb) fun σ H Q ⟨A, ρ, τ, lh, er, S, pr⟩ => ⟨rfl, A, ρ, lh, [], .nil, S, ?_⟩
  have pr2 : PRg (gx X) A ρ H (VR (gx X) A) (fm [] lh) (wAt (gx X) W σ) Q := pr
  show PRg (gx X) A ρ H (VR (gx X) A) (fm [] lh) _ Q
  cases q : fm [] lh with
  | ok d lh' => rw [q] at pr2; exact pr2
  | exc c lh' => rw [q] at pr2; exact fun ρ' H' s S' σ' => hW _ _ _ _ (pr2 ρ' H' s S')
  | stuck => rw [q] at pr2; exact pr2.elim
theorem ec_callP0 (tk : Takes X W) (F : FOk X.prog X.w X.K X.mg X.base k f 0 fm) (hr : Room k X.A) (hm : X.mg x = some (.ref f)) (hk : PySem.W.keepIn X.K (.ref f) = true)
    (hW : ∀ c σ σ' H, W c none σ H → W c none σ' H := by intro _ _ _ _ h; exact h) (hg : Gl X x := by rfl) (hdb : (x == ("__debug__" : Str)) = false := by decide) : EE X W (.Call (.Name x p) [] [] pos) (eCallP 0 fm aNil) := by
  obtain ⟨fd, ps, F, hb⟩ := F
  refine peImp (pe_call0 (E := fun cls d H => ∀ σ, W cls d σ H) F hr hg hm hk hb (dvs := []) .nil (passes_call tk fun cls d σ H h => h σ) hdb) fun σ H Q ⟨A, ρ, τ, lh, er, S, pr⟩ => ?_
  have pr1 : PRg (gx X) A ρ H (VR (gx X) A) (callP fm [] lh) (wAt (gx X) W σ) Q := pr
  obtain ⟨A', ρ', lh', ds', r', S', pr2⟩ := callP_rel S (.nil : VRs (gx X) A ρ H [] []) pr1
  have e : ds' = [] := by cases r'; rfl
  subst e
  refine ⟨rfl, A', ρ', lh', [], r', S', ?_⟩
  show PRg (gx X) A' ρ' H (VR (gx X) A') (fm [] lh') _ Q
  cases q : fm [] lh' with
  | ok d lh' => rw [q] at pr2; exact pr2
  | exc c lh' => rw [q] at pr2; exact fun ρ' H' s S' σ' => hW _ _ _ _ (pr2 ρ' H' s S')
  | stuck => rw [q] at pr2; exact pr2.elim
end
end Tb
namespace Tb
open PySem PySem.Spec PyProof.Rows L2
/-! ### o.m(e, ..) where what is raised is wished for at the slots -/
section
variable {X : Cx} {W : WX} {n : Nat} {x m : Str} {p pos apos p2 : Pos} {e o : Expr} {es : List Expr} {ma : AM} {mo : EM}
theorem ee_methS (ms : List (Str × FM)) (tk : Takes X W) (hms : ∀ q ∈ ms, MethOk X m n q.1 q.2) (ho : EE X W o mo) (ha : EA X W (e :: es) ma) {pl : Sem Bool}
    (hst : starEach (e :: es) X.env = (false, eval e X.env) :: starEach es X.env := by rfl) (hpl : (backTo pos (starEach es X.env)).any (·.1) = false := by rfl)
    (ht : eval (.Call (.Attribute o m apos) (e :: es) [] pos) X.env = (eval o X.env >>= fun ov => standAt apos.atName >>= fun _ => holding [ov] (getMethod ov m pl) >>= fun y =>
      callWith pos y.1 y.2 (backTo pos (starEach (e :: es) X.env)) (backToKw pos (keywordEach [] X.env))) := by rfl) : EE X W (.Call (.Attribute o m apos) (e :: es) [] pos) (eMethM ms m n mo ma) := by
  refine ⟨fun pins s σ H Q I ⟨A, ρ, τ, lh, er, S, pr⟩ => ?_⟩
  unfold eMethM at pr
  cases q : mo τ lh with
  | exc _ _ => simp only [q] at pr; exact pr.elim
  | stuck => simp only [q] at pr; exact pr.elim
  | ok d lh1 =>
    simp only [q] at pr
    cases qi : insAt lh1 d with
    | none => simp only [qi] at pr; exact pr.elim
    | some t =>
      obtain ⟨ix, c, fs⟩ := t
      simp only [qi] at pr
      by_cases hl : (fs.lookup m).isNone = true
      · rw [if_pos hl] at pr
        cases qm : ms.lookup c with
        | none => simp only [qm] at pr; exact pr.elim
        | some fm =>
          simp only [qm] at pr
          obtain ⟨f, fd, ps, k, hc, hm, F, hr, hb⟩ := hms _ (lookup_mem qm)
          have w1 : tE (gx X) W mo σ H (fun y H1 => ∃ a dx gs, y = .ref a ∧ H1 a = some (.ins (He.ga X.K c) dx gs) ∧ gs.lookup m = none ∧ tA (gx X) W ma σ H1 fun vs H2 => spE (gx X) n fm (.ref a :: vs) H2 Q (WE W σ)) := ⟨A, ρ, τ, lh, er, S, PRg.get q fun ρ1 H1 v s1 S1 r1 => by
            obtain ⟨a, dx, gs, rfl, rfl, hn, hlh, hH, hf⟩ := ins_rel S1 r1 qi
            refine ⟨a, dx, gs, rfl, hH, hf.lookupN (by simpa using hl), A, ρ1, τ, lh1, er.stp s1, S1, PRg.thn (PRg.stp s1 pr) fun ds lh2 ρ2 H2 vs s2 S2 r2 pr2 => ?_⟩
            by_cases hn2 : ds.length + 1 = n
            · rw [if_pos hn2] at pr2
              exact ⟨by rw [List.length_cons, r2.length]; exact hn2, A, ρ2, lh2, _ :: ds, .cons (r1.stp s2) r2, S2, pr2⟩
            · rw [if_neg hn2] at pr2
              exact pr2.elim⟩
          refine PySem.W.methodCall_KW (pl := pl) (thn (ho.run pins s σ H _ I w1) fun u s1 z => ?_) ht
          obtain ⟨y, H1, I1, ry, a, dx, gs, ey, ea, l, w2⟩ := z
          subst ey
          have eu : u = Value.ref a := ry
          subst eu
          refine getmeth_ok I1 ea hc hm l ?_
          refine PySem.W.callWith_K (h₀ := X.base) (first := [.ref a]) I.ok.mod.kin hm.kp ?_ hst hpl
          refine thn (ha.run pos pins s1 σ H1 _ I1 w2) fun us s2 z => ?_
          obtain ⟨vs, H2, I2, rv, w3⟩ := z
          exact ⟨I2.kIn, run_fnS (E := WE W) (vs := .ref a :: vs) (us := .ref a :: us) F hr hb (passAt tk σ) I2 (.cons rfl rv) w3⟩
      · rw [if_neg hl] at pr
        exact pr.elim
end
end Tb
namespace Tb
open PySem PySem.Spec PyProof.Rows L2
theorem ee_reverse {X : Cx} {W : WX} {o : Expr} {mo : EM} {cpos apos : Pos} (ho : EE X W o mo) (hb : attributeBase o "reverse" X.env (eval o X.env) = eval o X.env := by rfl)
    (h3 : (apos.endLine == cpos.line) = true := by rfl) : EE X W (.Call (.Attribute o "reverse" apos) [] [] cpos) (eMt0 rvG mo) :=
  ee_mt0 PySem.F.slot_list_reverse PySem.F.type_list_reverse mt_reverse (fun A ρ H a vs xs ys d Q ha rs hg k => by
    cases hg
    exact ⟨a, vs, rfl, rfl, ha, k _ _ rs.reverse .non⟩) ho hb h3
end Tb

/-! Defs that are called where nothing is being shown (no repr is under way): str of lists. -/
namespace Tb
open PySem PySem.Spec PyProof.Rows L2

/-- as FnOk, under no repr -/
structure FnG (P : Program) (w : World) (K : PySem.W.Frag) (mg : Str → Option Value) (base : Heap) (k : Nat) (f : Addr) (fd : FuncData) (ps : List Str) (sp : Sp) : Prop where
  len : ∀ us H Q E, sp us H Q E → us.length = ps.length
  go : ∀ (A : Around) (out : List Env) (s : Shared) (H : Hp) (ar : Args) (us : List Value) (vs : List V) (Q : VK) (E : XK), A.guards = some [] → Room k A → Env0 P w K mg base A out s H → BindsTo s fd ar (ps.zip us) → Vals vs us → sp vs H Q E →
    codeAny (model P w) A (.call (.ref f) ar) (CR (L2.CX P w) out P w H s Q E) s
theorem FnG.ofOk {P : Program} {w : World} {K : PySem.W.Frag} {mg : Str → Option Value} {base : Heap} {k : Nat} {f : Addr} {fd : FuncData} {ps : List Str} {sp : Sp} (F : FnOk P w K mg base (L2.CX P w) k f fd ps sp) : FnG P w K mg base k f fd ps sp :=
  ⟨F.len, fun A out s H ar us vs Q E _ hr e0 hb hv hs => F.run A out s H ar us vs Q E hr e0 hb hv hs⟩
section
variable {P : Program} {w : World} {K : PySem.W.Frag} {mg : Str → Option Value} {base : Heap} {x qual : Str} {params : Arguments} {body : List Stmt} {scope : Scope} {f : Addr} {fd : FuncData}
theorem fnG_of {N ps : List Str} {j : Nat} {sp : Sp} (F : FunD K x qual params body scope [] [] f fd) (S : FnScope N ps scope) (hlen : ∀ us H Q E, sp us H Q E → us.length = ps.length)
    (hbody : ∀ (cdv : Value) (A : Around) (out : List Env) (s : Shared) (H : Hp) (vs : List V) (Q : VK) (E : XK), A.guards = some [] → Room j (A.deeper (envOfC qual scope s.heap.objs.size f cdv)) → sp vs H Q E →
      ∃ t, PSs (cxOf (L2.CX P w) P w K mg base N qual scope f cdv A out s H E) body t ∧ t { nx := fun _ H2 => Q .non H2, rt := Q } (start N vs) H) : FnG P w K mg base (j + 1) f fd ps sp := by
  obtain ⟨oc, od, dV, kV, doc, pm, an, cdv, ct, osl, rfl, lk, hcd, _, _⟩ := F.ex
  refine ⟨hlen, fun A out s H ar us vs Q E hG hr e0 hb rv hsp => ?_⟩
  have hl := hlen _ _ _ _ hsp
  have kin : K.In s.heap := e0.mod.kin.keeps fun b o z => (e0.bs b o z).1
  have nolim : s.heap.NoLimit := e0.mod.nolimit.keeps fun b o z => (e0.bs b o z).1
  refine codeAny_call_function hr.depth (kin _ _ lk) rfl S.co S.gen rfl (PySem.W.codeRec_of kin hcd) (hb _ _ _ _ ?_)
  refine wpAny_newFunctionEnv_cells S.kind ?_ ?_
  · intro y hy
    obtain ⟨n, u⟩ := y
    rcases S.par n (List.of_mem_zip hy).1 with z | z
    · exact .inl z
    · exact .inr ⟨z, PySem.W.cellsFrom_some _ _ _ (.inl z)⟩
  · intro env he s1 inCall
    subst he
    refine ⟨nolim.keeps inCall.toInCall.keep, codeAny_func ?_⟩
    obtain ⟨t, ht, hq⟩ := hbody cdv A out s H vs Q E hG (hr.deeper _) hsp
    have J : L2.Inv (cxOf (L2.CX P w) P w K mg base N qual scope f cdv A out s H E) [] (start N vs) H s1 := inv_start S hr.hd e0 hl rv inCall
    refine wpAny_mono (ht.run [] s1 (start N vs) H _ J hq) (fun fl s2 hs2 => ?_) fun _ _ z => z
    cases fl with
    | ret u =>
      obtain ⟨v, σ2, H2, J2, r2, q2⟩ := hs2
      exact ⟨v, H2, J2.os, J2.bare, J2.base, J2.hok, r2, q2⟩
    | next =>
      obtain ⟨σ2, H2, J2, q2⟩ := hs2
      exact ⟨V.non, H2, J2.os, J2.bare, J2.base, J2.hok, rfl, q2⟩
    | brk => obtain ⟨_, _, _, z⟩ := hs2; exact z.elim
    | cont => obtain ⟨_, _, _, z⟩ := hs2; exact z.elim
theorem fnG_ok {N ps : List Str} {j k n : Nat} (b : SM) (F : FunD K x qual params body scope [] [] f fd) (S : FnScope N ps scope) (hn : ps.length = n) (hk : N.length = n + k)
    (hb : ∀ (cdv : Value) (A : Around) (outer : List Env) (s : Shared) (H : Hp) (E : XK), A.guards = some [] → Room j (A.deeper (envOfC qual scope s.heap.objs.size f cdv)) → ESs (cxOf (L2.CX P w) P w K mg base N qual scope f cdv A outer s H E) (WD E) body b) :
    FnG P w K mg base (j + 1) f fd ps (spE ⟨P, w, K⟩ n (fnM k b)) :=
  fnG_of F S (fun vs H Q E h => by rw [h.1, hn]) fun cdv A outer s H vs Q E hG hr ⟨hl, A', ρ, lh, ds, rs, S', pr⟩ => ⟨_, hb cdv A outer s H E hG hr, A', ρ, _, lh, start_rel rs (by rw [hl]; exact hk), S', by
    unfold fnM at pr
    cases q : b (ds.map some ++ List.replicate k none) lh with
    | nx τ lh' => rw [q] at pr; exact fun ρ' H' σ' s' S'' e => pr ρ' H' _ s' S'' .non
    | rt d lh' => rw [q] at pr; exact fun ρ' H' v s' S'' r => pr ρ' H' v s' S'' r
    | bk τ lh' => rw [q] at pr; exact pr.elim
    | exc c τ lh' => rw [q] at pr; exact fun ρ' H' σ' s' S'' e => pr ρ' H' s' S''
    | stuck => rw [q] at pr; exact pr.elim⟩
/-- the def at f: its mirror, under no repr -/
def FOkG (P : Program) (w : World) (K : PySem.W.Frag) (mg : Str → Option Value) (base : Heap) (k : Nat) (f : Addr) (n : Nat) (fm : FM) : Prop := ∃ fd ps, FnG P w K mg base k f fd ps (spE ⟨P, w, K⟩ n fm) ∧ Binds K fd ps []
theorem fokG_of {N ps : List Str} {j k n : Nat} (b : SM) (F : ∃ fd, FunD K x qual params body scope [] [] f fd) (S : FnScope N ps scope) (hn : ps.length = n) (hk : N.length = n + k)
    (hbd : ∀ (kV doc pm : Value) (an : Option Addr) (cdv ct : Value) (us : List Value), us.length = ps.length → bindArgs (PySem.W.fnOf x qual params body scope .none kV doc pm an cdv ct) ⟨us, []⟩ = pure (ps.zip us))
    (hb : ∀ (cdv : Value) (A : Around) (outer : List Env) (s : Shared) (H : Hp) (E : XK), A.guards = some [] → Room j (A.deeper (envOfC qual scope s.heap.objs.size f cdv)) → ESs (cxOf (L2.CX P w) P w K mg base N qual scope f cdv A outer s H E) (WD E) body b) :
    FOkG P w K mg base (j + 1) f n (fnM k b) := by
  obtain ⟨fd, F⟩ := F
  exact ⟨fd, ps, fnG_ok b F S hn hk hb, F.bindsN hbd⟩
end
section
variable {X : Cx} {W : WX} {k n : Nat} {f : Addr} {fd : FuncData} {ps : List Str} {sp : Sp} {x : Str} {p pos : Pos} {e : Expr} {es : List Expr} {ma : AM} {fm : FM}
theorem runG {pins : List (Addr × Obj)} {σ : L2.St} {H : Hp} {s : Shared} {Q : VK} {us : List Value} {vs : List V} {E : L2.St → XK} (F : FnG X.prog X.w X.K X.mg X.base k f fd ps sp) (hG : X.A.guards = some []) (hr : Room k X.A) (hb : Binds X.K fd ps []) (hx : PassesAt (L2.CX X.prog X.w) X σ (E σ))
    (I : L2.Inv X pins σ H s) (r : Vals vs us) (h : sp vs H Q (E σ)) : wpAny (model X.prog X.w) X.A (call (.ref f) us) (EP X pins σ Q) X.xe s := by
  have hl : us.length = ps.length := by
    rw [← r.length]
    exact F.len _ _ _ _ h
  have bb := hb s us I.kIn (by rw [List.append_nil]; exact hl)
  rw [List.append_nil] at bb
  refine wpAny_call (codeAny_mono (F.go X.A X.stack s H ⟨us, []⟩ us vs Q (E σ) hG hr I.env0 bb r h) fun z s2 hz => ?_)
  cases z with
  | error u => exact hx pins H s u s2 I hz
  | ok fl =>
    cases fl with
    | ret u => exact I.after hz
    | next => exact hz.elim
    | brk => exact hz.elim
    | cont => exact hz.elim
theorem pe_callG {E : L2.St → XK} {t : TA} (F : FnG X.prog X.w X.K X.mg X.base k f fd ps sp) (hG : X.A.guards = some []) (hr : Room k X.A) (hg : Gl X x) (hm : X.mg x = some (.ref f)) (hk : PySem.W.keepIn X.K (.ref f) = true) (hb : Binds X.K fd ps []) (hx : ∀ σ, PassesAt (L2.CX X.prog X.w) X σ (E σ))
    (ha : PA X (e :: es) t) (hdb : (x == ("__debug__" : Str)) = false) (he : starEach (e :: es) X.env = (false, eval e X.env) :: starEach es X.env) (hpl : (backTo pos (starEach es X.env)).any (·.1) = false) :
    PE X (.Call (.Name x p) (e :: es) [] pos) (tCallS sp E t) := by
  refine ⟨fun pins s σ H Q I h => wpAny_Call_Name_kw (ld_glob I hg hm ?_ hdb)⟩
  refine PySem.W.callWith_K (h₀ := X.base) I.ok.mod.kin hk (thn (ha.run pos pins s σ H _ I h) fun us s1 z => ?_) he hpl
  obtain ⟨vs, H1, I1, r, q⟩ := z
  exact ⟨I1.kIn, runG F hG hr hb (hx σ) I1 r q⟩
theorem ec_callSG (tk : Takes X W) (hG : X.A.guards = some []) (F : FOkG X.prog X.w X.K X.mg X.base k f n fm) (hr : Room k X.A) (hm : X.mg x = some (.ref f)) (hk : PySem.W.keepIn X.K (.ref f) = true) (ha : EA X W (e :: es) ma) (hg : Gl X x := by rfl)
    (hdb : (x == ("__debug__" : Str)) = false := by decide) (he : starEach (e :: es) X.env = (false, eval e X.env) :: starEach es X.env := by rfl) (hpl : (backTo pos (starEach es X.env)).any (·.1) = false := by rfl) : EE X W (.Call (.Name x p) (e :: es) [] pos) (eCallS n fm ma) := by
  obtain ⟨fd, ps, F, hb⟩ := F
  refine peImp (pe_callG (E := WE W) F hG hr hg hm hk hb (fun σ => passAt tk σ) ha hdb he hpl) fun σ H Q ⟨A, ρ, τ, lh, er, S, pr⟩ => ⟨A, ρ, τ, lh, er, S, PRg.thn pr fun ds lh1 ρ1 H1 xs s1 S1 r1 pr1 => ?_⟩
  by_cases hn : ds.length = n
  · rw [if_pos hn] at pr1
    exact ⟨by rw [r1.length]; exact hn, A, ρ1, lh1, ds, r1, S1, pr1⟩
  · rw [if_neg hn] at pr1
    exact pr1.elim
theorem ec_callPG (tk : Takes X W) (hG : X.A.guards = some []) (F : FOkG X.prog X.w X.K X.mg X.base k f n fm) (hr : Room k X.A) (hm : X.mg x = some (.ref f)) (hk : PySem.W.keepIn X.K (.ref f) = true) (ha : EA X W (e :: es) ma) (hg : Gl X x := by rfl)
    (hdb : (x == ("__debug__" : Str)) = false := by decide) (he : starEach (e :: es) X.env = (false, eval e X.env) :: starEach es X.env := by rfl) (hpl : (backTo pos (starEach es X.env)).any (·.1) = false := by rfl) : EE X W (.Call (.Name x p) (e :: es) [] pos) (eCallP n fm ma) := by
  obtain ⟨fd, ps, F, hb⟩ := F
  refine peImp (pe_callG (E := WE W) F hG hr hg hm hk hb (fun σ => passAt tk σ) ha hdb he hpl) fun σ H Q ⟨A, ρ, τ, lh, er, S, pr⟩ => ⟨A, ρ, τ, lh, er, S, PRg.thn pr fun ds lh1 ρ1 H1 xs s1 S1 r1 pr1 => ?_⟩
  by_cases hn : ds.length = n
  · rw [if_pos hn] at pr1
    obtain ⟨A', ρ', lh', ds', r', S', pr'⟩ := callP_rel S1 r1 pr1
    exact ⟨by rw [r1.length]; exact hn, A', ρ', lh', ds', r', S', pr'⟩
  · rw [if_neg hn] at pr1
    exact pr1.elim
end
/-! ### str(x), x a list or a tuple -/
def shG (lh : LH) (ds : List D) : Ro := match ds with
  | [.tup xs] => (match toP lh fuel (.tup xs) with
    | some p => if p.showable = true ∧ p.canLay0 = true ∧ p.depth ≤ 64 ∧ p.shown.length ≤ sizeLine then .v (.str p.shown) else .no
    | none => .no)
  | [.lst xs] => (match toP lh fuel (.lst xs) with
    | some p => if p.showable = true ∧ p.canLay0 = true ∧ p.depth ≤ 64 ∧ p.shown.length ≤ sizeLine then .v (.str p.shown) else .no
    | none => .no)
  | [.loc n] => (match toP lh fuel (.loc n) with
    | some p => if p.showable = true ∧ p.canLay0 = true ∧ p.depth ≤ 64 ∧ p.shown.length ≤ sizeLine then .v (.str p.shown) else .no
    | none => .no)
  | _ => .no
section
variable {X : Cx}
theorem str_core (hG : X.A.guards = some []) (hu : X.A.units + 200 < cLine) {al : Bool} {pins : List (Addr × Obj)} {σ : L2.St} {s : Shared} {H : Hp} {Q : VK} {A : Addr → Prop} {ρ : List Addr} {lh : LH} {d : D} {v : V} {u : Value} {a : Addr} (I : L2.Inv X pins σ H s) (S : SR (gx X) A ρ H lh) (rv : VR (gx X) A ρ H v d) (ru : RelV v u) (ea : v = .ref a)
    (pr : PRo (gx X) A ρ H al lh (match toP lh fuel d with
      | some p => if p.showable = true ∧ p.canLay0 = true ∧ p.depth ≤ 64 ∧ p.shown.length ≤ sizeLine then .v (.str p.shown) else .no
      | none => .no) Q) : wpAny (model X.prog X.w) X.A (call (.type "str") [u]) (EP X pins σ Q) X.xe s := by
  cases q : toP lh fuel d with
  | none => rw [q] at pr; exact pr.elim
  | some p =>
    rw [q] at pr
    simp only at pr
    by_cases hc : p.showable = true ∧ p.canLay0 = true ∧ p.depth ≤ 64 ∧ p.shown.length ≤ sizeLine
    · rw [if_pos hc] at pr
      obtain ⟨c1, c2, c3, c4⟩ := hc
      obtain ⟨as, rd⟩ := Dp.reads I p v u (toP_dp S _ rv q) ru
      subst ea
      have eu : u = Value.ref a := ru
      subst eu
      exact str_of_reads rd c1 (PyData.noDict_hsm (PyData.hasDict_of_canLay p c2)) hG (by omega) (fun _ _ e => e) (fun h' t tk hk => ⟨.str p.shown, H, I.kept (t' := tk) hk, ⟨t, rfl⟩, PRo.val pr S (.str _)⟩) c4
    · rw [if_neg hc] at pr
      exact pr.elim
theorem cb_str (hG : X.A.guards = some []) (hu : X.A.units + 200 < cLine) : CallD X (.type "str") shG := by
  intro al pins s σ H xs us Q I r ⟨A, ρ, lh, ds, S, rs, pr⟩
  unfold shG at pr
  split at pr
  · rename_i ys
    obtain ⟨v, rfl, rv⟩ := rs.one
    obtain ⟨u, rfl, ru⟩ := vals1 r
    obtain ⟨a, ea⟩ : ∃ a, v = .ref a := by cases rv; exact ⟨_, rfl⟩
    exact str_core hG hu I S rv ru ea pr
  · rename_i ys
    obtain ⟨v, rfl, rv⟩ := rs.one
    obtain ⟨u, rfl, ru⟩ := vals1 r
    obtain ⟨a, ea⟩ : ∃ a, v = .ref a := by cases rv; exact ⟨_, rfl⟩
    exact str_core hG hu I S rv ru ea pr
  · rename_i n
    obtain ⟨v, rfl, rv⟩ := rs.one
    obtain ⟨u, rfl, ru⟩ := vals1 r
    obtain ⟨a, ea⟩ : ∃ a, v = .ref a := by cases rv; exact ⟨_, rfl⟩
    exact str_core hG hu I S rv ru ea pr
  · exact pr.elim
end
end Tb

/-! The law's end, its def called under no repr. -/
namespace Tb
open PySem PySem.Spec PyProof.Rows L2
theorem law_callG {P : Program} {w : World} {K : PySem.W.Frag} {mg mb : Str → Option Value} {k : Nat} {fa a : Addr} {fd : FuncData} {x : Str} {sp : Sp} {s1 : Shared} {us : List Value} {ns : List Int}
    (kin : K.In s1.heap) (hN : s1.heap.Ns mainGlobals mg) (hB : s1.heap.Ns builtinsNs mb) (hBB : ∀ y : Str, y ≠ "__name__" → mb y = bootBuiltins y) (hL : s1.heap.NoLimit) (hgen : s1.gens = #[])
    (ha : s1.heap.get? a = some { cls := .type "list", data := .seq us.toArray }) (hi : IntsAre us ns) (hsz : ns.length ≤ sizeLine) (hr : Room k callerA)
    (F : ∀ base : Heap, FnG P w K mg base k fa fd [x] sp) (hbind : ∀ (s : Shared) (u : Value), BindsTo s fd ⟨[u], []⟩ [(x, u)])
    (hsp : ∀ H : Hp, SqL K H a (ns.map V.int) → sp [.ref a] H (fun v _ => v = .bl true) fun _ _ _ => False) (hCX : ∀ H e s2, L2.CX P w [] H s1 (fun _ _ _ => False) e s2 → False) :
    codeAny (model P w) callerA (.call (.ref fa) ⟨[.ref a], []⟩) (fun r s2 => r = .ok (.ret (.bool true)) ∧ OldK s1.heap s2.heap ∧ s2.os = s1.os ∧ AllBare s2.gens) s1 := by
  have rv := vals_ints hi
  have hlen := hi.length
  -- over a heap of which at most the script is tracked, as it stands
  have main : ∀ H : Hp, (∀ b, H b = none ∨ ∃ o xs, H b = some (.frz o (.lst xs))) → SqL K H a (ns.map V.int) → HOk P w H s1.heap → (∀ b u, H b = some u → b = a ∧ K.lookup a = none) →
      codeAny (model P w) callerA (.call (.ref fa) ⟨[.ref a], []⟩) (fun r s2 => r = .ok (.ret (.bool true)) ∧ OldK s1.heap s2.heap ∧ s2.os = s1.os ∧ AllBare s2.gens) s1 := by
    intro H hF hS hok hA
    have free : ∀ {b : Addr} {o : Obj} {es : Array DictEntry} {n : Nat}, s1.heap.get? b = some o → o.data = .dict es n → H b = none := by
      intro b o es n g d
      cases z : H b with
      | none => rfl
      | some u =>
        obtain ⟨eb, _⟩ := hA b u z
        rw [eb, ha] at g
        cases g
        cases d
    have ns2 : ∀ {b : Addr} {m : Str → Option Value}, s1.heap.Ns b m → (hidT s1.heap H).Ns b m := by
      rintro b m ⟨o, es, n, g, d, r⟩
      exact ⟨o, es, n, hidT_get g (free g d), d, r⟩
    have kin2 : K.In (hidT s1.heap H) := by
      intro b o lk
      refine hidT_get (kin b o lk) ?_
      cases z : H b with
      | none => rfl
      | some u =>
        obtain ⟨eb, en⟩ := hA b u z
        rw [eb, en] at lk
        cases lk
    obtain ⟨mc, hm1, hm2⟩ := hL
    have hM : L2.Mod K mg (hidT s1.heap H) := ⟨kin2, ns2 hN, ⟨mb, ns2 hB, hBB⟩, mc, ns2 hm1, hm2⟩
    have e0 : Env0 P w K mg (hidT s1.heap H) callerA [] s1 H := ⟨rfl, hM, fun b o z => of_hidT z, Nat.le_of_eq (hidT_size _ _), trivial, (fun b z => absurd (show b ∈ ([] : List Addr) from z) (by simp)), hok, .of_eq hgen⟩
    refine codeAny_mono ((F _).go callerA [] s1 H ⟨[.ref a], []⟩ [.ref a] [.ref a] _ _ rfl hr e0 (hbind s1 (.ref a)) (.cons rfl .nil) (hsp H hS)) fun r s2 z => ?_
    cases r with
    | error e => exact (hCX H e s2 z).elim
    | ok fl =>
      cases fl with
      | next => exact z.elim
      | brk => exact z.elim
      | cont => exact z.elim
      | ret u =>
        obtain ⟨v, H2, os, bare, un, hok2, rel, q⟩ := z
        have ev : v = .bl true := q
        subst ev
        have eu : u = Value.bool true := rel
        subst eu
        refine ⟨rfl, OldK.of_keep fun b o g => ?_, os, bare⟩
        rcases hF b with z | ⟨ob, xs, z⟩
        · exact un.keep b o g z (fun y => absurd (show b ∈ ([] : List Addr) from y) (by simp)) (fun y => nomatch y)
        · have g1 := (hok b _ z).1
          have g2 := (hok2 b _ (un.frzs b ob _ z)).1
          rw [g] at g1
          cases g1
          exact g2
  cases lk : K.lookup a with
  | some o =>
    have g := kin a o lk
    rw [ha] at g
    cases g
    exact main (fun _ => none) (fun _ => .inl rfl) (.inr ⟨_, us.toArray, _, lk, rfl, rfl, rfl, by rw [List.size_toArray, hlen]; exact hsz, by simpa using rv⟩) (fun b u z => nomatch z) fun b u z => nomatch z
  | none =>
    refine main (fun b => if b = a then some (.frz { cls := .type "list", data := .seq us.toArray } (.lst (ns.map V.int))) else none) (fun b => ?_) (.inl (.inr ⟨_, if_pos rfl⟩)) (fun b u z => ?_) fun b u z => ?_
    · by_cases hb : b = a
      · exact .inr ⟨_, _, if_pos hb⟩
      · exact .inl (if_neg hb)
    · by_cases hb : b = a
      · subst hb
        have z2 := (if_pos (rfl : b = b)).symm.trans z
        cases z2
        exact ⟨ha, by rw [List.length_map]; exact hsz, us, _, rv, ha⟩
      · have z2 := (if_neg hb).symm.trans z
        cases z2
    · by_cases hb : b = a
      · exact ⟨hb, lk⟩
      · have z2 := (if_neg hb).symm.trans z
        cases z2
theorem walkG {l : PySem.W.OpenLaw} {n k : Nat} {q : Program} {loose : List Str} {XP : (Str → Option Value) → Heap → Prop} {YP : World → Heap → Prop} {d : DefRec} {x : Str}
    (hn : l.most = some n) (hn2 : n ≤ sizeLine) (hdf : d.params.defaults = []) (hr : Room k callerA)
    (F : ∀ (w : World) (mg : Str → Option Value) (fa : Addr) (h : Heap), YP w h → h.Ns mainGlobals mg → mg d.name = some (.ref fa) → ∃ K : PySem.W.Frag, K.In h ∧ ∃ (fd : FuncData) (sp : Sp), (∀ (s : Shared) (u : Value), BindsTo s fd ⟨[u], []⟩ [(x, u)]) ∧
      (∀ (H : Hp) (a : Addr) (ns : List Int), ns.length ≤ n → (∀ z ∈ ns, Builtin.Int.intBits z ≤ 1048576) → SqL K H a (ns.map V.int) → sp [.ref a] H (fun v _ => v = .bl true) fun _ _ _ => False) ∧ ∀ base : Heap, FnG l.prog w K mg base k fa fd [x] sp)
    (hCX : ∀ (w : World) (H : Hp) (s : Shared) (e : Value) (s2 : Shared), L2.CX l.prog w [] H s (fun _ _ _ => False) e s2 → False) :
    PySem.W.WalkO q loose XP YP l.row.toRowW d [] (fun f vs => PySem.call f vs) := by
  refine Att.attach_callB hn hdf fun w s0 s1 mg mb fa o pm cd doc a vs ns G Y ho hd hcd hmg hobj hints hlen hbits hg => ?_
  obtain ⟨K, kin, fd, sp, hb, hsp, hF⟩ := F w mg fa _ Y G.T.g hmg
  exact law_callG kin G.T.g G.T.b G.T.builtins G.T.nolimit hg hobj hints (Nat.le_trans hlen hn2) hr hF hb (fun H hS => hsp H a ns hlen hbits hS) fun H e s2 => hCX w H s1 e s2
end Tb

/-! sorted(d), d a dict with tuples for keys. -/
namespace Tb
open PySem PySem.Spec PyProof.Rows L2
def sortA (lh : LH) (ds : List D) : Ro := match ds with
  | [d] => (match asDic lh d with
    | some (ks, _) => sortG lh [.lst ks]
    | none => sortG lh [d])
  | _ => .no
section
variable {X : Cx}
theorem dr_vals {G : Gx} {A : Addr → Prop} {ρ : List Addr} {H : Hp} : ∀ {xs : List DEnt} {ks us : List D}, DR G A ρ H xs ks us → VRs G A ρ H (xs.map fun x => V.ref x.2.1) ks
  | _, _, _, .nil => .nil
  | _, _, _, .cons _ h _ _ r => .cons h (dr_vals r)
theorem dr_len {G : Gx} {A : Addr → Prop} {ρ : List Addr} {H : Hp} : ∀ {xs : List DEnt} {ks us : List D}, DR G A ρ H xs ks us → xs.length = ks.length
  | _, _, _, .nil => rfl
  | _, _, _, .cons _ h _ _ r => by rw [List.length_cons, List.length_cons, dr_len r]
theorem vals_refs : ∀ (xs : List DEnt) (us : List Value), us.length = xs.length → (∀ (j : Nat) (v : Value), us[j]? = some v → ∃ y, xs[j]? = some y ∧ v = .ref y.2.1) → Vals (xs.map fun x => V.ref x.2.1) us
  | [], [], _, _ => .nil
  | x :: xs, u :: us, hl, h => by
    obtain ⟨y, e1, e2⟩ := h 0 u rfl
    have e1' : x = y := Option.some.inj e1
    subst e1'
    refine .cons e2 (vals_refs xs us (by simpa using hl) fun j v e => ?_)
    exact h (j + 1) v (by simpa using e)
  | [], _ :: _, hl, _ => by simp at hl
  | _ :: _, [], hl, _ => by simp at hl
theorem cb_sortA (hcalm : X.calm = true) (hu : X.A.units + 200 < cLine) : CallD X (.builtin "sorted") sortA := by
  intro al pins s σ H xs us Q I r ⟨A, ρ, lh, ds, S, rs, pr⟩
  unfold sortA at pr
  split at pr
  · rename_i d
    split at pr
    · rename_i ks us' hdic
      obtain ⟨v, rfl, rv⟩ := rs.one
      obtain ⟨a, xs, rfl, ha, dr⟩ := asDic_rel S rv hdic
      simp only at dr
      obtain ⟨u, rfl, ru⟩ := vals1 r
      obtain rfl : u = Value.ref a := ru
      obtain ⟨⟨o, es, ep, h1, h2, h3, h4, h5, h6, h7⟩, _, _⟩ := I.hok a _ ha
      unfold sortG at pr
      have hasL : asL lh (.lst ks) = some ks := rfl
      simp only [hasL] at pr
      split at pr
      · rename_i ps hps
        split at pr
        · rename_i hc
          obtain ⟨c1, hc⟩ := He.ba hc
          obtain ⟨c2, hc⟩ := He.ba hc
          obtain ⟨c3, c4⟩ := He.ba hc
          have r2 : VRs (gx X) A ρ H (xs.map fun x => V.ref x.2.1) ks := dr_vals dr
          obtain ⟨bs, b1, b2, b3, b4⟩ := tri fuel lh (fun v p => Dp X.K H v p) (fun r e => toP_dp S fuel r e) r2 hps
          have hlen : bs.length = ks.length := by
            have := r2.length
            rw [← b1, List.length_map] at this
            exact this
          have hes : es.size = xs.length := by
            have := congrArg List.length h4
            rw [List.length_map, Array.length_toList] at this
            exact this
          have h16 : es.size ≤ sizeLine := by rw [hes]; exact h7
          have hal : PySem.W.AllAlike (bs.map fun b => b.2.2) := by
            rw [b3]
            intro p hp q hq
            exact List.all_eq_true.mp (List.all_eq_true.mp c1 p hp) q hq
          have hks : PySem.W.Sortable (bs.map fun b => b.2.2) := by
            rw [b3]
            rcases Bool.or_eq_true_iff.mp c2 with c2 | c2
            · refine .inl fun p hp => ?_
              have := List.all_eq_true.mp c2 p hp
              unfold tupNe at this
              split at this
              · exact ⟨_, _, rfl⟩
              · cases this
            · refine .inr fun p hp => ?_
              have := List.all_eq_true.mp c2 p hp
              constructor
              · intro e
                rw [e] at this
                cases this
              · intro xs e
                rw [e] at this
                cases this
          refine Calls.call_function_entry PyProof.Rows.kind_sorted PyProof.Rows.plain_sorted PyProof.Rows.entry_sorted (PyProof.Rows.args_sorted1 _) ?_
          unfold Builtin.«sorted»
          refine wpAny_bind (m := checkCount "sorted" 1 1 _) (wpAny_pure ?_)
          refine wpAny_bind (PySem.W.kdu_collect (A := X.A.in1) (kdl_raw h6 h2 h3) (I.ok.hd hcalm) h1 h16 fun h' tk acc hk hacc => ?_)
          have hal2 : acc.toList.length = xs.length := by rw [Array.length_toList, hacc.1, hes]
          have hV : Vals (xs.map fun x => V.ref x.2.1) acc.toList := vals_refs xs acc.toList hal2 fun j v e => by
            obtain ⟨en, e1, e2⟩ := hacc.2 j v (by rw [← Array.getElem?_toList]; exact e)
            rw [← Array.getElem?_toList, h4, List.getElem?_map] at e1
            cases e3 : xs[j]? with
            | none => rw [e3] at e1; cases e1
            | some y =>
              rw [e3] at e1
              have e4 := Option.some.inj e1
              subst e4
              exact ⟨y, rfl, e2⟩
          have I1 : Inv X pins σ H { s with heap := h', toks := tk } := I.kept hk
          have hkl : acc.toList.length ≤ sizeLine := by rw [hal2]; exact h7
          refine wpAny_bind (wpAny_newList ?_ hkl)
          have hoL : (h'.push (seqObj "list" acc.toList.toArray 0)).get? h'.objs.size = some (seqObj "list" acc.toList.toArray 0) := Heap.get?_push_size _ rfl
          show wpAny _ _ _ _ _ { s with heap := h'.push (seqObj "list" acc.toList.toArray 0), toks := tk }
          rw [← b1] at hV
          have e1 : PySem.W.EachIs (fun u (b : V × D × PyData) => RelV b.1 u) acc.toList bs := each_vals hV
          have e2 : PySem.W.EachIs (fun u (b : V × D × PyData) => ∃ as, Reads (h'.push (seqObj "list" acc.toList.toArray 0)) u b.2.2 as ∧ h'.objs.size ∉ as) acc.toList bs := each_imp e1 fun u b hb hr => by
            obtain ⟨as, hrd⟩ := Dp.reads I1 b.2.2 b.1 u (b4 b hb).2 hr
            refine ⟨as, PyProof.Rows.Reads.keeps (fun c o e => Heap.get?_push_of_some _ e) hrd, fun hm => ?_⟩
            obtain ⟨o', ho'⟩ := PyProof.On.reads_mem_get hrd _ hm
            exact absurd (Heap.lt_size ho') (Nat.lt_irrefl _)
          refine wpAny_bind (wpAny_holding (PySem.W.list_sort_data (s := { s with heap := h'.push (seqObj "list" acc.toList.toArray 0), toks := tk }) (enc := fun b : V × D × PyData => b.2.2) (R := fun u b => RelV b.1 u) hoL e1 e2 hal hks (by rw [hlen]; exact of_decide_eq_true c3) (fun b hb => ?_) fun out ho eo => ?_))
          · have : b.2.2 ∈ ps := by rw [← b3]; exact List.mem_map.mpr ⟨b, hb, rfl⟩
            have hd' := of_decide_eq_true (List.all_eq_true.mp c4 _ this)
            show X.A.in1.units + 1 + b.2.2.depth < cLine
            rw [PyProof.Rows.units_in1]
            omega
          · obtain ⟨e', he'⟩ := PyProof.Rows.sortedHeap_at (vs := acc.toList) (out := out.toArray) hoL
            have hmem : ∀ b ∈ bs.mergeSort (PySem.W.dataLe false fun b : V × D × PyData => b.2.2), b ∈ bs := fun b hb => (List.mergeSort_perm _ _).mem_iff.mp hb
            have eD : (bs.mergeSort (PySem.W.dataLe false fun b : V × D × PyData => b.2.2)).map (fun b => (b.2.1, b.2.2)) = isort leP (ks.zip ps) := by
              rw [← b2, ← isort_eq (le := leP) (fun a b c => (PySem.W.sortLe_total (PyProof.Rows.listOrd PyProof.Rows.itemOrd) false fun x : D × PyData => PySem.W.keyToks x.2).trans a b c) (fun a b => by
                rcases (PySem.W.sortLe_total (PyProof.Rows.listOrd PyProof.Rows.itemOrd) false fun x : D × PyData => PySem.W.keyToks x.2).total a b with z | z
                · exact Bool.or_eq_true_iff.mpr (.inl z)
                · exact Bool.or_eq_true_iff.mpr (.inr z))]
              exact List.map_mergeSort fun a _ b _ => rfl
            have eV : VRs (gx X) A ρ H ((bs.mergeSort (PySem.W.dataLe false fun b : V × D × PyData => b.2.2)).map (·.1)) ((isort leP (ks.zip ps)).map (·.1)) := by
              rw [← eD, List.map_map]
              have : ∀ l : List (V × D × PyData), (∀ b ∈ l, VR (gx X) A ρ H b.1 b.2.1) → VRs (gx X) A ρ H (l.map (·.1)) (l.map ((fun x : D × PyData => x.1) ∘ fun b => (b.2.1, b.2.2))) := by
                intro l
                induction l with
                | nil => intro _; exact .nil
                | cons b l ih => intro h; exact .cons (h b List.mem_cons_self) (ih fun c hc => h c (List.mem_cons_of_mem _ hc))
              exact this _ fun b hb => (b4 b (hmem b hb)).1
            refine wpAny_pure ⟨_, rfl, .ref h'.objs.size, _, I1.laid (a := h'.objs.size) (o := .lst ((bs.mergeSort (PySem.W.dataLe false fun b : V × D × PyData => b.2.2)).map (·.1))) (t' := tk) (fun b u e => ?_) (Nat.le_refl _) ⟨?_, out, e', vals_each eo, he'⟩, rfl, PRo.new (PRo.of pr) S eV _ (I1.hok.fresh (Nat.le_refl _))⟩
            · have hb : b < h'.objs.size := Heap.lt_size e
              rw [PyProof.Rows.sortedHeap_old (Nat.ne_of_lt hb) (by rw [size_push']; exact Nat.lt_succ_of_lt hb)]
              exact Heap.get?_push_of_some _ e
            · rw [List.length_map, (List.mergeSort_perm _ _).length_eq, hlen]
              exact of_decide_eq_true c3
        · exact pr.elim
      · exact pr.elim
    · exact cb_sorted hu al pins s σ H _ us Q I r ⟨A, ρ, lh, _, S, rs, pr⟩
  · exact pr.elim
end
end Tb

namespace Lw
open PySem PySem.Spec PyProof.Rows L2 Tb
def top (i : Nat) : Stmt := PySem.Challenge.pw_turnbridge_k04_within_by_hand.main.body.getD i (.Pass ⟨0, 0, 0, 0⟩)
abbrev s_is_whole : Stmt := top 8
abbrev s_between : Stmt := top 9
abbrev s_is_count : Stmt := top 10
abbrev s_is_line : Stmt := top 11
abbrev s_engines_of : Stmt := top 12
abbrev s_check_lines : Stmt := top 13
abbrev s_check_order : Stmt := top 14
abbrev s_is_deed : Stmt := top 15
abbrev s_first_stand : Stmt := top 17
abbrev s_behind : Stmt := top 18
abbrev s_there : Stmt := top 19
abbrev s_next_of : Stmt := top 20
abbrev s_kept : Stmt := top 21
abbrev s_is_last : Stmt := top 22
abbrev s_gone_by : Stmt := top 23
abbrev s_heights_of : Stmt := top 24
abbrev s_brings : Stmt := top 25
abbrev s_Within_init : Stmt := inClass (top 28) 0
abbrev s_Within_shows : Stmt := inClass (top 28) 1
abbrev s_Beyond_init : Stmt := inClass (top 29) 0
abbrev s_least_way : Stmt := top 34
abbrev s_within : Stmt := top 35
abbrev s__law_cell_at : Stmt := top 37
abbrev s__law_draw : Stmt := top 38
abbrev s__law_number : Stmt := top 39
abbrev s__law_yard : Stmt := top 40
abbrev s__law_order : Stmt := top 41
abbrev s__law_behind : Stmt := top 42
abbrev s__law_first : Stmt := top 43
abbrev s__law_gone : Stmt := top 44
abbrev s__law_there : Stmt := top 45
abbrev s__law_steps : Stmt := top 46
abbrev s__law_last : Stmt := top 47
abbrev s__law_heights : Stmt := top 48
abbrev s__law_is_within : Stmt := top 49
abbrev s__law_way : Stmt := top 50
abbrev s__law_says : Stmt := top 51
abbrev s_law : Stmt := top 52
abbrev cs_deeds : List Str := ["Within"]
abbrev cs_heights : List Str := ["Beyond"]
abbrev ss_DEEDS : List Str := ["left", "out", "put", "right", "take"]
abbrev c_DEEDS : D := .tup (ss_DEEDS.map .str)
abbrev c_MOST : D := .int 60
structure Hd (K : PySem.W.Frag) (mg : Str → Option Value) : Prop where
  f_len : mg "len" = none
  f_isinstance : mg "isinstance" = none
  f_sorted : mg "sorted" = none
  f_range : mg "range" = none
  f_list : mg "list" = none
  f_tuple : mg "tuple" = none
  f_sum : mg "sum" = none
  f_min : mg "min" = none
  f_all : mg "all" = none
  f_any : mg "any" = none
  f_enumerate : mg "enumerate" = none
  f_int : mg "int" = none
  f_bool : mg "bool" = none
  f_str : mg "str" = none
  f_zip : mg "zip" = none
  g_is_whole : mg "is_whole" = some (.ref (He.ga K "is_whole"))
  k_is_whole : PySem.W.keepIn K (.ref (He.ga K "is_whole")) = true
  g_between : mg "between" = some (.ref (He.ga K "between"))
  k_between : PySem.W.keepIn K (.ref (He.ga K "between")) = true
  g_is_count : mg "is_count" = some (.ref (He.ga K "is_count"))
  k_is_count : PySem.W.keepIn K (.ref (He.ga K "is_count")) = true
  g_is_line : mg "is_line" = some (.ref (He.ga K "is_line"))
  k_is_line : PySem.W.keepIn K (.ref (He.ga K "is_line")) = true
  g_engines_of : mg "engines_of" = some (.ref (He.ga K "engines_of"))
  k_engines_of : PySem.W.keepIn K (.ref (He.ga K "engines_of")) = true
  g_check_lines : mg "check_lines" = some (.ref (He.ga K "check_lines"))
  k_check_lines : PySem.W.keepIn K (.ref (He.ga K "check_lines")) = true
  g_check_order : mg "check_order" = some (.ref (He.ga K "check_order"))
  k_check_order : PySem.W.keepIn K (.ref (He.ga K "check_order")) = true
  g_is_deed : mg "is_deed" = some (.ref (He.ga K "is_deed"))
  k_is_deed : PySem.W.keepIn K (.ref (He.ga K "is_deed")) = true
  g_first_stand : mg "first_stand" = some (.ref (He.ga K "first_stand"))
  k_first_stand : PySem.W.keepIn K (.ref (He.ga K "first_stand")) = true
  g_behind : mg "behind" = some (.ref (He.ga K "behind"))
  k_behind : PySem.W.keepIn K (.ref (He.ga K "behind")) = true
  g_there : mg "there" = some (.ref (He.ga K "there"))
  k_there : PySem.W.keepIn K (.ref (He.ga K "there")) = true
  g_next_of : mg "next_of" = some (.ref (He.ga K "next_of"))
  k_next_of : PySem.W.keepIn K (.ref (He.ga K "next_of")) = true
  g_kept : mg "kept" = some (.ref (He.ga K "kept"))
  k_kept : PySem.W.keepIn K (.ref (He.ga K "kept")) = true
  g_is_last : mg "is_last" = some (.ref (He.ga K "is_last"))
  k_is_last : PySem.W.keepIn K (.ref (He.ga K "is_last")) = true
  g_gone_by : mg "gone_by" = some (.ref (He.ga K "gone_by"))
  k_gone_by : PySem.W.keepIn K (.ref (He.ga K "gone_by")) = true
  g_heights_of : mg "heights_of" = some (.ref (He.ga K "heights_of"))
  k_heights_of : PySem.W.keepIn K (.ref (He.ga K "heights_of")) = true
  g_brings : mg "brings" = some (.ref (He.ga K "brings"))
  k_brings : PySem.W.keepIn K (.ref (He.ga K "brings")) = true
  g_least_way : mg "least_way" = some (.ref (He.ga K "least_way"))
  k_least_way : PySem.W.keepIn K (.ref (He.ga K "least_way")) = true
  g_within : mg "within" = some (.ref (He.ga K "within"))
  k_within : PySem.W.keepIn K (.ref (He.ga K "within")) = true
  g__law_cell_at : mg "_law_cell_at" = some (.ref (He.ga K "_law_cell_at"))
  k__law_cell_at : PySem.W.keepIn K (.ref (He.ga K "_law_cell_at")) = true
  g__law_draw : mg "_law_draw" = some (.ref (He.ga K "_law_draw"))
  k__law_draw : PySem.W.keepIn K (.ref (He.ga K "_law_draw")) = true
  g__law_number : mg "_law_number" = some (.ref (He.ga K "_law_number"))
  k__law_number : PySem.W.keepIn K (.ref (He.ga K "_law_number")) = true
  g__law_yard : mg "_law_yard" = some (.ref (He.ga K "_law_yard"))
  k__law_yard : PySem.W.keepIn K (.ref (He.ga K "_law_yard")) = true
  g__law_order : mg "_law_order" = some (.ref (He.ga K "_law_order"))
  k__law_order : PySem.W.keepIn K (.ref (He.ga K "_law_order")) = true
  g__law_behind : mg "_law_behind" = some (.ref (He.ga K "_law_behind"))
  k__law_behind : PySem.W.keepIn K (.ref (He.ga K "_law_behind")) = true
  g__law_first : mg "_law_first" = some (.ref (He.ga K "_law_first"))
  k__law_first : PySem.W.keepIn K (.ref (He.ga K "_law_first")) = true
  g__law_gone : mg "_law_gone" = some (.ref (He.ga K "_law_gone"))
  k__law_gone : PySem.W.keepIn K (.ref (He.ga K "_law_gone")) = true
  g__law_there : mg "_law_there" = some (.ref (He.ga K "_law_there"))
  k__law_there : PySem.W.keepIn K (.ref (He.ga K "_law_there")) = true
  g__law_steps : mg "_law_steps" = some (.ref (He.ga K "_law_steps"))
  k__law_steps : PySem.W.keepIn K (.ref (He.ga K "_law_steps")) = true
  g__law_last : mg "_law_last" = some (.ref (He.ga K "_law_last"))
  k__law_last : PySem.W.keepIn K (.ref (He.ga K "_law_last")) = true
  g__law_heights : mg "_law_heights" = some (.ref (He.ga K "_law_heights"))
  k__law_heights : PySem.W.keepIn K (.ref (He.ga K "_law_heights")) = true
  g__law_is_within : mg "_law_is_within" = some (.ref (He.ga K "_law_is_within"))
  k__law_is_within : PySem.W.keepIn K (.ref (He.ga K "_law_is_within")) = true
  g__law_way : mg "_law_way" = some (.ref (He.ga K "_law_way"))
  k__law_way : PySem.W.keepIn K (.ref (He.ga K "_law_way")) = true
  g__law_says : mg "_law_says" = some (.ref (He.ga K "_law_says"))
  k__law_says : PySem.W.keepIn K (.ref (He.ga K "_law_says")) = true
  g_law : mg "law" = some (.ref (He.ga K "law"))
  k_law : PySem.W.keepIn K (.ref (He.ga K "law")) = true
  g_Within : mg "Within" = some (.ref (He.ga K "Within"))
  g_Beyond : mg "Beyond" = some (.ref (He.ga K "Beyond"))
  g_BadCount : mg "BadCount" = some (.ref (He.ga K "BadCount"))
  g_BadLines : mg "BadLines" = some (.ref (He.ga K "BadLines"))
  g_BadOrder : mg "BadOrder" = some (.ref (He.ga K "BadOrder"))
  c_Within : Cls K (He.ga K "Within")
  mk_Within : Mk K (He.ga K "Within") (He.ma K (He.ga K "Within") "__init__")
  c_Beyond : Cls K (He.ga K "Beyond")
  mk_Beyond : Mk K (He.ga K "Beyond") (He.ma K (He.ga K "Beyond") "__init__")
  me_Within_shows : Meth K (He.ga K "Within") "shows" (He.ma K (He.ga K "Within") "shows")
  e_BadCount : PySem.W.excIn K (He.ga K "BadCount") He.veBase "ValueError.__new__" = true ∧ PySem.W.keepIn K (.ref (He.ga K "BadCount")) = true ∧ PySem.W.subIn K (.ref (He.ga K "BadCount")) (.type "BaseException") = some true ∧ PySem.W.typeIn K (.ref (He.ga K "BadCount")) = some (.type "type")
  e_BadLines : PySem.W.excIn K (He.ga K "BadLines") He.veBase "ValueError.__new__" = true ∧ PySem.W.keepIn K (.ref (He.ga K "BadLines")) = true ∧ PySem.W.subIn K (.ref (He.ga K "BadLines")) (.type "BaseException") = some true ∧ PySem.W.typeIn K (.ref (He.ga K "BadLines")) = some (.type "type")
  e_BadOrder : PySem.W.excIn K (He.ga K "BadOrder") He.veBase "ValueError.__new__" = true ∧ PySem.W.keepIn K (.ref (He.ga K "BadOrder")) = true ∧ PySem.W.subIn K (.ref (He.ga K "BadOrder")) (.type "BaseException") = some true ∧ PySem.W.typeIn K (.ref (He.ga K "BadOrder")) = some (.type "type")
  at_deeds : ∀ c ∈ cs_deeds, Cls K (He.ga K c) ∧ NoAttr K (He.ga K c) "deeds"
  at_heights : ∀ c ∈ cs_heights, Cls K (He.ga K c) ∧ NoAttr K (He.ga K c) "heights"
  x_DEEDS : ∀ (X : Cx) (W : WX) {pos : Pos}, X.K = K → X.mg = mg → Gl X "DEEDS" → EE X W (.Name "DEEDS" pos) (eC c_DEEDS)
  x_MOST : ∀ (X : Cx) (W : WX) {pos : Pos}, X.K = K → X.mg = mg → Gl X "MOST" → EE X W (.Name "MOST" pos) (eC c_MOST)
  F_is_whole : ∃ fd, FunD K "is_whole" "is_whole" (defArgs s_is_whole) (defBody s_is_whole) (defScope s_is_whole) [] [] (He.ga K "is_whole") fd
  F_between : ∃ fd, FunD K "between" "between" (defArgs s_between) (defBody s_between) (defScope s_between) [] [] (He.ga K "between") fd
  F_is_count : ∃ fd, FunD K "is_count" "is_count" (defArgs s_is_count) (defBody s_is_count) (defScope s_is_count) [] [] (He.ga K "is_count") fd
  F_is_line : ∃ fd, FunD K "is_line" "is_line" (defArgs s_is_line) (defBody s_is_line) (defScope s_is_line) [] [] (He.ga K "is_line") fd
  F_engines_of : ∃ fd, FunD K "engines_of" "engines_of" (defArgs s_engines_of) (defBody s_engines_of) (defScope s_engines_of) [] [] (He.ga K "engines_of") fd
  F_check_lines : ∃ fd, FunD K "check_lines" "check_lines" (defArgs s_check_lines) (defBody s_check_lines) (defScope s_check_lines) [] [] (He.ga K "check_lines") fd
  F_check_order : ∃ fd, FunD K "check_order" "check_order" (defArgs s_check_order) (defBody s_check_order) (defScope s_check_order) [] [] (He.ga K "check_order") fd
  F_is_deed : ∃ fd, FunD K "is_deed" "is_deed" (defArgs s_is_deed) (defBody s_is_deed) (defScope s_is_deed) [] [] (He.ga K "is_deed") fd
  F_first_stand : ∃ fd, FunD K "first_stand" "first_stand" (defArgs s_first_stand) (defBody s_first_stand) (defScope s_first_stand) [] [] (He.ga K "first_stand") fd
  F_behind : ∃ fd, FunD K "behind" "behind" (defArgs s_behind) (defBody s_behind) (defScope s_behind) [] [] (He.ga K "behind") fd
  F_there : ∃ fd, FunD K "there" "there" (defArgs s_there) (defBody s_there) (defScope s_there) [] [] (He.ga K "there") fd
  F_next_of : ∃ fd, FunD K "next_of" "next_of" (defArgs s_next_of) (defBody s_next_of) (defScope s_next_of) [] [] (He.ga K "next_of") fd
  F_kept : ∃ fd, FunD K "kept" "kept" (defArgs s_kept) (defBody s_kept) (defScope s_kept) [] [] (He.ga K "kept") fd
  F_is_last : ∃ fd, FunD K "is_last" "is_last" (defArgs s_is_last) (defBody s_is_last) (defScope s_is_last) [] [] (He.ga K "is_last") fd
  F_gone_by : ∃ fd, FunD K "gone_by" "gone_by" (defArgs s_gone_by) (defBody s_gone_by) (defScope s_gone_by) [] [] (He.ga K "gone_by") fd
  F_heights_of : ∃ fd, FunD K "heights_of" "heights_of" (defArgs s_heights_of) (defBody s_heights_of) (defScope s_heights_of) [] [] (He.ga K "heights_of") fd
  F_brings : ∃ fd, FunD K "brings" "brings" (defArgs s_brings) (defBody s_brings) (defScope s_brings) [] [] (He.ga K "brings") fd
  F_Within_init : ∃ fd, FunD K "__init__" "Within.__init__" (defArgs s_Within_init) (defBody s_Within_init) (defScope s_Within_init) [] [] (He.ma K (He.ga K "Within") "__init__") fd
  F_Within_shows : ∃ fd, FunD K "shows" "Within.shows" (defArgs s_Within_shows) (defBody s_Within_shows) (defScope s_Within_shows) [] [] (He.ma K (He.ga K "Within") "shows") fd
  F_Beyond_init : ∃ fd, FunD K "__init__" "Beyond.__init__" (defArgs s_Beyond_init) (defBody s_Beyond_init) (defScope s_Beyond_init) [] [] (He.ma K (He.ga K "Beyond") "__init__") fd
  F_least_way : ∃ fd, FunD K "least_way" "least_way" (defArgs s_least_way) (defBody s_least_way) (defScope s_least_way) [] [] (He.ga K "least_way") fd
  F_within : ∃ fd, FunD K "within" "within" (defArgs s_within) (defBody s_within) (defScope s_within) [] [] (He.ga K "within") fd
  F__law_cell_at : ∃ fd, FunD K "_law_cell_at" "_law_cell_at" (defArgs s__law_cell_at) (defBody s__law_cell_at) (defScope s__law_cell_at) [] [] (He.ga K "_law_cell_at") fd
  F__law_draw : ∃ fd, FunD K "_law_draw" "_law_draw" (defArgs s__law_draw) (defBody s__law_draw) (defScope s__law_draw) [] [] (He.ga K "_law_draw") fd
  F__law_number : ∃ fd, FunD K "_law_number" "_law_number" (defArgs s__law_number) (defBody s__law_number) (defScope s__law_number) [] [] (He.ga K "_law_number") fd
  F__law_yard : ∃ fd, FunD K "_law_yard" "_law_yard" (defArgs s__law_yard) (defBody s__law_yard) (defScope s__law_yard) [] [] (He.ga K "_law_yard") fd
  F__law_order : ∃ fd, FunD K "_law_order" "_law_order" (defArgs s__law_order) (defBody s__law_order) (defScope s__law_order) [] [] (He.ga K "_law_order") fd
  F__law_behind : ∃ fd, FunD K "_law_behind" "_law_behind" (defArgs s__law_behind) (defBody s__law_behind) (defScope s__law_behind) [] [] (He.ga K "_law_behind") fd
  F__law_first : ∃ fd, FunD K "_law_first" "_law_first" (defArgs s__law_first) (defBody s__law_first) (defScope s__law_first) [] [] (He.ga K "_law_first") fd
  F__law_gone : ∃ fd, FunD K "_law_gone" "_law_gone" (defArgs s__law_gone) (defBody s__law_gone) (defScope s__law_gone) [] [] (He.ga K "_law_gone") fd
  F__law_there : ∃ fd, FunD K "_law_there" "_law_there" (defArgs s__law_there) (defBody s__law_there) (defScope s__law_there) [] [] (He.ga K "_law_there") fd
  F__law_steps : ∃ fd, FunD K "_law_steps" "_law_steps" (defArgs s__law_steps) (defBody s__law_steps) (defScope s__law_steps) [] [] (He.ga K "_law_steps") fd
  F__law_last : ∃ fd, FunD K "_law_last" "_law_last" (defArgs s__law_last) (defBody s__law_last) (defScope s__law_last) [] [] (He.ga K "_law_last") fd
  F__law_heights : ∃ fd, FunD K "_law_heights" "_law_heights" (defArgs s__law_heights) (defBody s__law_heights) (defScope s__law_heights) [] [] (He.ga K "_law_heights") fd
  F__law_is_within : ∃ fd, FunD K "_law_is_within" "_law_is_within" (defArgs s__law_is_within) (defBody s__law_is_within) (defScope s__law_is_within) [] [] (He.ga K "_law_is_within") fd
  F__law_way : ∃ fd, FunD K "_law_way" "_law_way" (defArgs s__law_way) (defBody s__law_way) (defScope s__law_way) [] [] (He.ga K "_law_way") fd
  F__law_says : ∃ fd, FunD K "_law_says" "_law_says" (defArgs s__law_says) (defBody s__law_says) (defScope s__law_says) [] [] (He.ga K "_law_says") fd
  F_law : ∃ fd, FunD K "law" "law" (defArgs s_law) (defBody s_law) (defScope s_law) [] [] (He.ga K "law") fd
section
variable {P : Program} {w : World} {K : PySem.W.Frag} {mg : Str → Option Value} {base : Heap}
def m_is_whole : SM := (sRet (eAnd (eIsi (fB ["int"]) (eVar 0)) (eNot (eIsi (fB ["bool"]) (eVar 0)))))
def f_is_whole : FM := fnM 0 m_is_whole
def N_is_whole : List Str := ["thing"]
theorem sc_is_whole : FnScope N_is_whole ["thing"] (defScope s_is_whole) := ⟨rfl, rfl, rfl, by decide, by decide, by decide, by decide⟩
theorem bd_is_whole (kV doc pm : Value) (an : Option Addr) (cdv ct : Value) (us : List Value) (hl : us.length = (["thing"] : List Str).length) : bindArgs (PySem.W.fnOf "is_whole" "is_whole" (defArgs s_is_whole) (defBody s_is_whole) (defScope s_is_whole) .none kV doc pm an cdv ct) ⟨us, []⟩ = pure ((["thing"] : List Str).zip us) := match us, hl with | [_], _ => rfl
theorem b_is_whole (h : Hd K mg) (cdv : Value) (A : Around) (outer : List Env) (s : Shared) (H : Hp) (E : XK) (hr : Room 0 (A.deeper (envOfC "is_whole" (defScope s_is_whole) s.heap.objs.size (He.ga K "is_whole") cdv))) : ESs (cxOf (L2.CX P w) P w K mg base N_is_whole "is_whole" (defScope s_is_whole) (He.ga K "is_whole") cdv A outer s H E) (WD E) (defBody s_is_whole) m_is_whole := by
      have hN : N_is_whole.Nodup := by decide
      have hu := units_of hr
      have hp := passes_of (X := cxOf (L2.CX P w) P w K mg base N_is_whole "is_whole" (defScope s_is_whole) (He.ga K "is_whole") cdv A outer s H E) rfl
      have tk : Takes (cxOf (L2.CX P w) P w K mg base N_is_whole "is_whole" (defScope s_is_whole) (He.ga K "is_whole") cdv A outer s H E) (WD E) := takes_of rfl rfl rfl rfl
      have hc : (cxOf (L2.CX P w) P w K mg base N_is_whole "is_whole" (defScope s_is_whole) (He.ga K "is_whole") cdv A outer s H E).calm = true := rfl
      exact (ess_one (es_ret (ee_and (ee_isiB "int" "int" (kb_int _) (ee_var 0) h.f_isinstance h.f_int bb_int) (ee_one (ee_not (ee_isiB "bool" "bool" (kb_bool _) (ee_var 0) h.f_isinstance h.f_bool bb_bool))))))
theorem ok_is_whole (h : Hd K mg) : FOk P w K mg base 1 (He.ga K "is_whole") 1 f_is_whole :=
  fok_of (N := N_is_whole) (ps := ["thing"]) m_is_whole h.F_is_whole sc_is_whole rfl rfl bd_is_whole (b_is_whole h)
def m_between : SM := (sRet (eAnd (eCallP 1 f_is_whole (aCons (eVar 0) aNil)) (eChain leG leG (eVar 1) (eVar 0) (eVar 2))))
def f_between : FM := fnM 0 m_between
def N_between : List Str := ["thing", "low", "high"]
theorem sc_between : FnScope N_between ["thing", "low", "high"] (defScope s_between) := ⟨rfl, rfl, rfl, by decide, by decide, by decide, by decide⟩
theorem bd_between (kV doc pm : Value) (an : Option Addr) (cdv ct : Value) (us : List Value) (hl : us.length = (["thing", "low", "high"] : List Str).length) : bindArgs (PySem.W.fnOf "between" "between" (defArgs s_between) (defBody s_between) (defScope s_between) .none kV doc pm an cdv ct) ⟨us, []⟩ = pure ((["thing", "low", "high"] : List Str).zip us) := match us, hl with | [_, _, _], _ => rfl
theorem b_between (h : Hd K mg) (cdv : Value) (A : Around) (outer : List Env) (s : Shared) (H : Hp) (E : XK) (hr : Room 1 (A.deeper (envOfC "between" (defScope s_between) s.heap.objs.size (He.ga K "between") cdv))) : ESs (cxOf (L2.CX P w) P w K mg base N_between "between" (defScope s_between) (He.ga K "between") cdv A outer s H E) (WD E) (defBody s_between) m_between := by
      have hN : N_between.Nodup := by decide
      have hu := units_of hr
      have hp := passes_of (X := cxOf (L2.CX P w) P w K mg base N_between "between" (defScope s_between) (He.ga K "between") cdv A outer s H E) rfl
      have tk : Takes (cxOf (L2.CX P w) P w K mg base N_between "between" (defScope s_between) (He.ga K "between") cdv A outer s H E) (WD E) := takes_of rfl rfl rfl rfl
      have hc : (cxOf (L2.CX P w) P w K mg base N_between "between" (defScope s_between) (He.ga K "between") cdv A outer s H E).calm = true := rfl
      exact (ess_one (es_ret (ee_and (ec_callP tk (ok_is_whole h) (hr.mono (by decide)) h.g_is_whole h.k_is_whole (ea_cons (ee_var 0) ea_nil)) (ee_one (ee_chain op_leD op_leD (ee_var 1) (ee_var 0) (ee_var 2))))))
theorem ok_between (h : Hd K mg) : FOk P w K mg base 2 (He.ga K "between") 3 f_between :=
  fok_of (N := N_between) (ps := ["thing", "low", "high"]) m_between h.F_between sc_between rfl rfl bd_between (b_between h)
def m_is_count : SM := (sRet (eCallP 3 f_between (aCons (eVar 0) (aCons (eC (.int 0)) (aCons (eC c_MOST) aNil)))))
def f_is_count : FM := fnM 0 m_is_count
def N_is_count : List Str := ["thing"]
theorem sc_is_count : FnScope N_is_count ["thing"] (defScope s_is_count) := ⟨rfl, rfl, rfl, by decide, by decide, by decide, by decide⟩
theorem bd_is_count (kV doc pm : Value) (an : Option Addr) (cdv ct : Value) (us : List Value) (hl : us.length = (["thing"] : List Str).length) : bindArgs (PySem.W.fnOf "is_count" "is_count" (defArgs s_is_count) (defBody s_is_count) (defScope s_is_count) .none kV doc pm an cdv ct) ⟨us, []⟩ = pure ((["thing"] : List Str).zip us) := match us, hl with | [_], _ => rfl
theorem b_is_count (h : Hd K mg) (cdv : Value) (A : Around) (outer : List Env) (s : Shared) (H : Hp) (E : XK) (hr : Room 2 (A.deeper (envOfC "is_count" (defScope s_is_count) s.heap.objs.size (He.ga K "is_count") cdv))) : ESs (cxOf (L2.CX P w) P w K mg base N_is_count "is_count" (defScope s_is_count) (He.ga K "is_count") cdv A outer s H E) (WD E) (defBody s_is_count) m_is_count := by
      have hN : N_is_count.Nodup := by decide
      have hu := units_of hr
      have hp := passes_of (X := cxOf (L2.CX P w) P w K mg base N_is_count "is_count" (defScope s_is_count) (He.ga K "is_count") cdv A outer s H E) rfl
      have tk : Takes (cxOf (L2.CX P w) P w K mg base N_is_count "is_count" (defScope s_is_count) (He.ga K "is_count") cdv A outer s H E) (WD E) := takes_of rfl rfl rfl rfl
      have hc : (cxOf (L2.CX P w) P w K mg base N_is_count "is_count" (defScope s_is_count) (He.ga K "is_count") cdv A outer s H E).calm = true := rfl
      exact (ess_one (es_ret (ec_callP tk (ok_between h) (hr.mono (by decide)) h.g_between h.k_between (ea_cons (ee_var 0) (ea_cons ee_int (ea_cons (h.x_MOST _ _ rfl rfl rfl) ea_nil))))))
theorem ok_is_count (h : Hd K mg) : FOk P w K mg base 3 (He.ga K "is_count") 1 f_is_count :=
  fok_of (N := N_is_count) (ps := ["thing"]) m_is_count h.F_is_count sc_is_count rfl rfl bd_is_count (b_is_count h)
def m_is_line : SM := (sSeq (sIf (tOrD (tNotD (tOf (eIsi (fB ["tuple"]) (eVar 0)))) (tOrD (t2 neG (eCall false lenG (aCons (eVar 0) aNil)) (eC (.int 2))) (tNotD (tOf (eCallP 3 f_between (aCons (e2 false ixG (eVar 0) (eC (.int 0))) (aCons (eC (.int 1)) (aCons (eC (.int 2)) aNil))))))))
  (sRet (eC (.bl false)))
  sNil)
  (sRet (eAnd (eIsi (fB ["tuple"]) (e2 false ixG (eVar 0) (eC (.int 1)))) (eAnd (e2 false leG (eCall false lenG (aCons (e2 false ixG (eVar 0) (eC (.int 1))) aNil)) (e2 false ixG (eVar 0) (eC (.int 0)))) (eCall true allG (aCons (eLc false (iOf (e2 false ixG (eVar 0) (eC (.int 1)))) (gbName 1) tYesD (eCallP 3 f_between (aCons (eVar 1) (aCons (eC (.int 0)) (aCons (eC (.int 2)) aNil)))) [1]) aNil))))))
def f_is_line : FM := fnM 1 m_is_line
def N_is_line : List Str := ["thing", "one"]
theorem sc_is_line : FnScope N_is_line ["thing"] (defScope s_is_line) := ⟨rfl, rfl, rfl, by decide, by decide, by decide, by decide⟩
theorem bd_is_line (kV doc pm : Value) (an : Option Addr) (cdv ct : Value) (us : List Value) (hl : us.length = (["thing"] : List Str).length) : bindArgs (PySem.W.fnOf "is_line" "is_line" (defArgs s_is_line) (defBody s_is_line) (defScope s_is_line) .none kV doc pm an cdv ct) ⟨us, []⟩ = pure ((["thing"] : List Str).zip us) := match us, hl with | [_], _ => rfl
theorem b_is_line (h : Hd K mg) (cdv : Value) (A : Around) (outer : List Env) (s : Shared) (H : Hp) (E : XK) (hr : Room 2 (A.deeper (envOfC "is_line" (defScope s_is_line) s.heap.objs.size (He.ga K "is_line") cdv))) : ESs (cxOf (L2.CX P w) P w K mg base N_is_line "is_line" (defScope s_is_line) (He.ga K "is_line") cdv A outer s H E) (WD E) (defBody s_is_line) m_is_line := by
      have hN : N_is_line.Nodup := by decide
      have hu := units_of hr
      have hp := passes_of (X := cxOf (L2.CX P w) P w K mg base N_is_line "is_line" (defScope s_is_line) (He.ga K "is_line") cdv A outer s H E) rfl
      have tk : Takes (cxOf (L2.CX P w) P w K mg base N_is_line "is_line" (defScope s_is_line) (He.ga K "is_line") cdv A outer s H E) (WD E) := takes_of rfl rfl rfl rfl
      have hc : (cxOf (L2.CX P w) P w K mg base N_is_line "is_line" (defScope s_is_line) (He.ga K "is_line") cdv A outer s H E).calm = true := rfl
      exact (ess_cons (es_if (et_w (ew_or (et_not (et_of (ee_isiB "tuple" "tuple" (kb_tuple _) (ee_var 0) h.f_isinstance h.f_tuple bb_tuple))) (ew_or (et_cmp (op_neDD hu) (ee_callB false cb_len (ea_cons (ee_var 0) ea_nil) h.f_len bb_len) ee_int) (ew_or1 (et_not (et_of (ec_callP tk (ok_between h) (hr.mono (by decide)) h.g_between h.k_between (ea_cons (ee_sub hu (ee_var 0) ee_int) (ea_cons ee_int (ea_cons ee_int ea_nil))))))))))
  (ess_one (es_ret ee_bl))
  ess_nil)
  (ess_one (es_ret (ee_and (ee_isiB "tuple" "tuple" (kb_tuple _) (ee_sub hu (ee_var 0) ee_int) h.f_isinstance h.f_tuple bb_tuple) (ee_and (ee_cmp op_leD (ee_callB false cb_len (ea_cons (ee_sub hu (ee_var 0) ee_int) ea_nil) h.f_len bb_len) (ee_sub hu (ee_var 0) ee_int)) (ee_one (ee_callB true (cb_all rfl) (ea_cons (ee_lc false rfl hN [("one", 1)] (ei_of (ee_sub hu (ee_var 0) ee_int)) (by rfl) (fun _ _ _ _ _ => (eg_name 1 hN)) (fun _ _ _ _ _ => ets_nil) (fun _ _ _ _ _ => (ec_callP takes0 (ok_between h) (hr.mono (by decide)) h.g_between h.k_between (ea_cons (ee_var 1) (ea_cons ee_int (ea_cons ee_int ea_nil)))))) ea_nil) h.f_all bb_all)))))))
theorem ok_is_line (h : Hd K mg) : FOk P w K mg base 3 (He.ga K "is_line") 1 f_is_line :=
  fok_of (N := N_is_line) (ps := ["thing"]) m_is_line h.F_is_line sc_is_line rfl rfl bd_is_line (b_is_line h)
def m_engines_of : SM := (sSeq (sSet 1 (eLst true aNil))
  (sSeq (sFor 0 (iOf (eVar 0)) (gbTup (gbCons (gbName 2) (gbCons (gbName 3) gbNil)))
  (sDrop (eMt exG (eVar 1) (eVar 3))))
  (sRet (eCall true sortA (aCons (eVar 1) aNil)))))
def f_engines_of : FM := fnM 3 m_engines_of
def N_engines_of : List Str := ["lines", "found", "room", "engines"]
theorem sc_engines_of : FnScope N_engines_of ["lines"] (defScope s_engines_of) := ⟨rfl, rfl, rfl, by decide, by decide, by decide, by decide⟩
theorem bd_engines_of (kV doc pm : Value) (an : Option Addr) (cdv ct : Value) (us : List Value) (hl : us.length = (["lines"] : List Str).length) : bindArgs (PySem.W.fnOf "engines_of" "engines_of" (defArgs s_engines_of) (defBody s_engines_of) (defScope s_engines_of) .none kV doc pm an cdv ct) ⟨us, []⟩ = pure ((["lines"] : List Str).zip us) := match us, hl with | [_], _ => rfl
theorem b_engines_of (h : Hd K mg) (cdv : Value) (A : Around) (outer : List Env) (s : Shared) (H : Hp) (E : XK) (hr : Room 0 (A.deeper (envOfC "engines_of" (defScope s_engines_of) s.heap.objs.size (He.ga K "engines_of") cdv))) : ESs (cxOf (L2.CX P w) P w K mg base N_engines_of "engines_of" (defScope s_engines_of) (He.ga K "engines_of") cdv A outer s H E) (WD E) (defBody s_engines_of) m_engines_of := by
      have hN : N_engines_of.Nodup := by decide
      have hu := units_of hr
      have hp := passes_of (X := cxOf (L2.CX P w) P w K mg base N_engines_of "engines_of" (defScope s_engines_of) (He.ga K "engines_of") cdv A outer s H E) rfl
      have tk : Takes (cxOf (L2.CX P w) P w K mg base N_engines_of "engines_of" (defScope s_engines_of) (He.ga K "engines_of") cdv A outer s H E) (WD E) := takes_of rfl rfl rfl rfl
      have hc : (cxOf (L2.CX P w) P w K mg base N_engines_of "engines_of" (defScope s_engines_of) (He.ga K "engines_of") cdv A outer s H E).calm = true := rfl
      exact (ess_cons (es_set 1 hN (ee_lst true ea_nil))
  (ess_cons (es_for 0 hp rfl (ei_of (ee_var 0)) (eg_tup rfl (egs_cons (eg_name 2 hN) (egs_cons (eg_name 3 hN) egs_nil)))
  (ess_one (es_expr (ee_extend (ee_var 1) (ee_var 3)))))
  (ess_one (es_ret (ee_callB true (cb_sortA rfl hu) (ea_cons (ee_var 1) ea_nil) h.f_sorted bb_sorted)))))
theorem ok_engines_of (h : Hd K mg) : FOk P w K mg base 1 (He.ga K "engines_of") 1 f_engines_of :=
  fok_of (N := N_engines_of) (ps := ["lines"]) m_engines_of h.F_engines_of sc_engines_of rfl rfl bd_engines_of (b_engines_of h)
def m_check_lines : SM := (sSeq (sIf (tOrD (tNotD (tOf (eIsi (fB ["list"]) (eVar 0)))) (tOrD (tNotD (tBl (eChain leG leG (eC (.int 2)) (eCall false lenG (aCons (eVar 0) aNil)) (eC (.int 3))))) (tNotD (tOf (eCall false allG (aCons (eLc false (iOf (eVar 0)) (gbName 2) tYesD (eCallP 1 f_is_line (aCons (eVar 2) aNil)) [2]) aNil))))))
  (sRaise "BadLines")
  sNil)
  (sSeq (sIf (t2 gtG (eCall false sumG (aCons (eLc false (iOf (eVar 0)) (gbTup (gbCons (gbName 3) (gbCons (gbName 4) gbNil))) tYesD (eVar 3) [3, 4]) aNil)) (eC (.int 4)))
  (sRaise "BadLines")
  sNil)
  (sSeq (sSet 1 (eCallP 1 f_engines_of (aCons (eVar 0) aNil)))
  (sIf (tOrD (tNotD (tBl (eChain leG leG (eC (.int 1)) (eCall false lenG (aCons (eVar 1) aNil)) (eC (.int 3))))) (t2 neG (eVar 1) (eLisRng false (eCall false lenG (aCons (eVar 1) aNil)))))
  (sRaise "BadLines")
  sNil))))
def f_check_lines : FM := fnM 4 m_check_lines
def N_check_lines : List Str := ["lines", "engines", "one", "room", "some"]
theorem sc_check_lines : FnScope N_check_lines ["lines"] (defScope s_check_lines) := ⟨rfl, rfl, rfl, by decide, by decide, by decide, by decide⟩
theorem bd_check_lines (kV doc pm : Value) (an : Option Addr) (cdv ct : Value) (us : List Value) (hl : us.length = (["lines"] : List Str).length) : bindArgs (PySem.W.fnOf "check_lines" "check_lines" (defArgs s_check_lines) (defBody s_check_lines) (defScope s_check_lines) .none kV doc pm an cdv ct) ⟨us, []⟩ = pure ((["lines"] : List Str).zip us) := match us, hl with | [_], _ => rfl
theorem b_check_lines (h : Hd K mg) (cdv : Value) (A : Around) (outer : List Env) (s : Shared) (H : Hp) (E : XK) (hr : Room 3 (A.deeper (envOfC "check_lines" (defScope s_check_lines) s.heap.objs.size (He.ga K "check_lines") cdv))) : ESs (cxOf (L2.CX P w) P w K mg base N_check_lines "check_lines" (defScope s_check_lines) (He.ga K "check_lines") cdv A outer s H E) (WD E) (defBody s_check_lines) m_check_lines := by
      have hN : N_check_lines.Nodup := by decide
      have hu := units_of hr
      have hp := passes_of (X := cxOf (L2.CX P w) P w K mg base N_check_lines "check_lines" (defScope s_check_lines) (He.ga K "check_lines") cdv A outer s H E) rfl
      have tk : Takes (cxOf (L2.CX P w) P w K mg base N_check_lines "check_lines" (defScope s_check_lines) (He.ga K "check_lines") cdv A outer s H E) (WD E) := takes_of rfl rfl rfl rfl
      have hc : (cxOf (L2.CX P w) P w K mg base N_check_lines "check_lines" (defScope s_check_lines) (He.ga K "check_lines") cdv A outer s H E).calm = true := rfl
      exact (ess_cons (es_if (et_w (ew_or (et_not (et_of (ee_isiB "list" "list" (kb_list _) (ee_var 0) h.f_isinstance h.f_list bb_list))) (ew_or (et_not (et_chain2 op_leD op_leD ee_int (ee_callB false cb_len (ea_cons (ee_var 0) ea_nil) h.f_len bb_len) ee_int)) (ew_or1 (et_not (et_of (ee_callB false (cb_all rfl) (ea_cons (ee_lc false rfl hN [("one", 2)] (ei_of (ee_var 0)) (by rfl) (fun _ _ _ _ _ => (eg_name 2 hN)) (fun _ _ _ _ _ => ets_nil) (fun _ _ _ _ _ => (ec_callP takes0 (ok_is_line h) (hr.mono (by decide)) h.g_is_line h.k_is_line (ea_cons (ee_var 2) ea_nil)))) ea_nil) h.f_all bb_all)))))))
  (ess_one (es_raise rfl tk h.e_BadLines.1 h.g_BadLines h.e_BadLines.2.1 h.e_BadLines.2.2.1 h.e_BadLines.2.2.2))
  ess_nil)
  (ess_cons (es_if (et_cmp op_gtD (ee_callB false (cb_sum rfl) (ea_cons (ee_lc false rfl hN [("room", 3), ("some", 4)] (ei_of (ee_var 0)) (by rfl) (fun _ _ _ _ _ => (eg_tup rfl (egs_cons (eg_name 3 hN) (egs_cons (eg_name 4 hN) egs_nil)))) (fun _ _ _ _ _ => ets_nil) (fun _ _ _ _ _ => (ee_var 3))) ea_nil) h.f_sum bb_sum) ee_int)
  (ess_one (es_raise rfl tk h.e_BadLines.1 h.g_BadLines h.e_BadLines.2.1 h.e_BadLines.2.2.1 h.e_BadLines.2.2.2))
  ess_nil)
  (ess_cons (es_set 1 hN (ec_callP tk (ok_engines_of h) (hr.mono (by decide)) h.g_engines_of h.k_engines_of (ea_cons (ee_var 0) ea_nil)))
  (ess_one (es_if (et_w (ew_or (et_not (et_chain2 op_leD op_leD ee_int (ee_callB false cb_len (ea_cons (ee_var 1) ea_nil) h.f_len bb_len) ee_int)) (ew_or1 (et_cmp (op_neDD hu) (ee_var 1) (ee_lisRng false rfl (ee_callB false cb_len (ea_cons (ee_var 1) ea_nil) h.f_len bb_len) h.f_list h.f_range)))))
  (ess_one (es_raise rfl tk h.e_BadLines.1 h.g_BadLines h.e_BadLines.2.1 h.e_BadLines.2.2.1 h.e_BadLines.2.2.2))
  ess_nil)))))
theorem ok_check_lines (h : Hd K mg) : FOk P w K mg base 4 (He.ga K "check_lines") 1 f_check_lines :=
  fok_of (N := N_check_lines) (ps := ["lines"]) m_check_lines h.F_check_lines sc_check_lines rfl rfl bd_check_lines (b_check_lines h)
def m_check_order : SM := (sIf (tOrD (tNotD (tOf (eIsi (fB ["list"]) (eVar 1)))) (tOrD (tNotD (tOf (eCall false allG (aCons (eLc false (iOf (eVar 1)) (gbName 2) tYesD (eCallP 1 f_is_whole (aCons (eVar 2) aNil)) [2]) aNil)))) (t2 neG (eCall false sortA (aCons (eVar 1) aNil)) (eCallP 1 f_engines_of (aCons (eVar 0) aNil)))))
  (sRaise "BadOrder")
  sNil)
def f_check_order : FM := fnM 1 m_check_order
def N_check_order : List Str := ["lines", "order", "one"]
theorem sc_check_order : FnScope N_check_order ["lines", "order"] (defScope s_check_order) := ⟨rfl, rfl, rfl, by decide, by decide, by decide, by decide⟩
theorem bd_check_order (kV doc pm : Value) (an : Option Addr) (cdv ct : Value) (us : List Value) (hl : us.length = (["lines", "order"] : List Str).length) : bindArgs (PySem.W.fnOf "check_order" "check_order" (defArgs s_check_order) (defBody s_check_order) (defScope s_check_order) .none kV doc pm an cdv ct) ⟨us, []⟩ = pure ((["lines", "order"] : List Str).zip us) := match us, hl with | [_, _], _ => rfl
theorem b_check_order (h : Hd K mg) (cdv : Value) (A : Around) (outer : List Env) (s : Shared) (H : Hp) (E : XK) (hr : Room 1 (A.deeper (envOfC "check_order" (defScope s_check_order) s.heap.objs.size (He.ga K "check_order") cdv))) : ESs (cxOf (L2.CX P w) P w K mg base N_check_order "check_order" (defScope s_check_order) (He.ga K "check_order") cdv A outer s H E) (WD E) (defBody s_check_order) m_check_order := by
      have hN : N_check_order.Nodup := by decide
      have hu := units_of hr
      have hp := passes_of (X := cxOf (L2.CX P w) P w K mg base N_check_order "check_order" (defScope s_check_order) (He.ga K "check_order") cdv A outer s H E) rfl
      have tk : Takes (cxOf (L2.CX P w) P w K mg base N_check_order "check_order" (defScope s_check_order) (He.ga K "check_order") cdv A outer s H E) (WD E) := takes_of rfl rfl rfl rfl
      have hc : (cxOf (L2.CX P w) P w K mg base N_check_order "check_order" (defScope s_check_order) (He.ga K "check_order") cdv A outer s H E).calm = true := rfl
      exact (ess_one (es_if (et_w (ew_or (et_not (et_of (ee_isiB "list" "list" (kb_list _) (ee_var 1) h.f_isinstance h.f_list bb_list))) (ew_or (et_not (et_of (ee_callB false (cb_all rfl) (ea_cons (ee_lc false rfl hN [("one", 2)] (ei_of (ee_var 1)) (by rfl) (fun _ _ _ _ _ => (eg_name 2 hN)) (fun _ _ _ _ _ => ets_nil) (fun _ _ _ _ _ => (ec_callP takes0 (ok_is_whole h) (hr.mono (by decide)) h.g_is_whole h.k_is_whole (ea_cons (ee_var 2) ea_nil)))) ea_nil) h.f_all bb_all))) (ew_or1 (et_cmp (op_neDD hu) (ee_callB false (cb_sortA rfl hu) (ea_cons (ee_var 1) ea_nil) h.f_sorted bb_sorted) (ec_callP tk (ok_engines_of h) (hr.mono (by decide)) h.g_engines_of h.k_engines_of (ea_cons (ee_var 0) ea_nil)))))))
  (ess_one (es_raise rfl tk h.e_BadOrder.1 h.g_BadOrder h.e_BadOrder.2.1 h.e_BadOrder.2.2.1 h.e_BadOrder.2.2.2))
  ess_nil))
theorem ok_check_order (h : Hd K mg) : FOk P w K mg base 2 (He.ga K "check_order") 2 f_check_order :=
  fok_of (N := N_check_order) (ps := ["lines", "order"]) m_check_order h.F_check_order sc_check_order rfl rfl bd_check_order (b_check_order h)
def m_is_deed : SM := (sRet (eAnd (eIsi (fB ["str"]) (eVar 0)) (e2 false inG (eVar 0) (eC c_DEEDS))))
def f_is_deed : FM := fnM 0 m_is_deed
def N_is_deed : List Str := ["thing"]
theorem sc_is_deed : FnScope N_is_deed ["thing"] (defScope s_is_deed) := ⟨rfl, rfl, rfl, by decide, by decide, by decide, by decide⟩
theorem bd_is_deed (kV doc pm : Value) (an : Option Addr) (cdv ct : Value) (us : List Value) (hl : us.length = (["thing"] : List Str).length) : bindArgs (PySem.W.fnOf "is_deed" "is_deed" (defArgs s_is_deed) (defBody s_is_deed) (defScope s_is_deed) .none kV doc pm an cdv ct) ⟨us, []⟩ = pure ((["thing"] : List Str).zip us) := match us, hl with | [_], _ => rfl
theorem b_is_deed (h : Hd K mg) (cdv : Value) (A : Around) (outer : List Env) (s : Shared) (H : Hp) (E : XK) (hr : Room 0 (A.deeper (envOfC "is_deed" (defScope s_is_deed) s.heap.objs.size (He.ga K "is_deed") cdv))) : ESs (cxOf (L2.CX P w) P w K mg base N_is_deed "is_deed" (defScope s_is_deed) (He.ga K "is_deed") cdv A outer s H E) (WD E) (defBody s_is_deed) m_is_deed := by
      have hN : N_is_deed.Nodup := by decide
      have hu := units_of hr
      have hp := passes_of (X := cxOf (L2.CX P w) P w K mg base N_is_deed "is_deed" (defScope s_is_deed) (He.ga K "is_deed") cdv A outer s H E) rfl
      have tk : Takes (cxOf (L2.CX P w) P w K mg base N_is_deed "is_deed" (defScope s_is_deed) (He.ga K "is_deed") cdv A outer s H E) (WD E) := takes_of rfl rfl rfl rfl
      have hc : (cxOf (L2.CX P w) P w K mg base N_is_deed "is_deed" (defScope s_is_deed) (He.ga K "is_deed") cdv A outer s H E).calm = true := rfl
      exact (ess_one (es_ret (ee_and (ee_isiB "str" "str" (kb_str _) (ee_var 0) h.f_isinstance h.f_str bb_str) (ee_one (ee_cmp (op_inDD hu) (ee_var 0) (h.x_DEEDS _ _ rfl rfl rfl))))))
theorem ok_is_deed (h : Hd K mg) : FOk P w K mg base 1 (He.ga K "is_deed") 1 f_is_deed :=
  fok_of (N := N_is_deed) (ps := ["thing"]) m_is_deed h.F_is_deed sc_is_deed rfl rfl bd_is_deed (b_is_deed h)
def m_first_stand : SM := (sRet (eTup (aCons (eCall true tupG (aCons (eLc false (iOf (eVar 0)) (gbTup (gbCons (gbName 1) (gbCons (gbName 2) gbNil))) tYesD (eVar 2) [1, 2]) aNil)) (aCons (eC (.int 0)) (aCons (e1 false negG (eC (.int 1))) aNil)))))
def f_first_stand : FM := fnM 2 m_first_stand
def N_first_stand : List Str := ["lines", "room", "engines"]
theorem sc_first_stand : FnScope N_first_stand ["lines"] (defScope s_first_stand) := ⟨rfl, rfl, rfl, by decide, by decide, by decide, by decide⟩
theorem bd_first_stand (kV doc pm : Value) (an : Option Addr) (cdv ct : Value) (us : List Value) (hl : us.length = (["lines"] : List Str).length) : bindArgs (PySem.W.fnOf "first_stand" "first_stand" (defArgs s_first_stand) (defBody s_first_stand) (defScope s_first_stand) .none kV doc pm an cdv ct) ⟨us, []⟩ = pure ((["lines"] : List Str).zip us) := match us, hl with | [_], _ => rfl
theorem b_first_stand (h : Hd K mg) (cdv : Value) (A : Around) (outer : List Env) (s : Shared) (H : Hp) (E : XK) (hr : Room 0 (A.deeper (envOfC "first_stand" (defScope s_first_stand) s.heap.objs.size (He.ga K "first_stand") cdv))) : ESs (cxOf (L2.CX P w) P w K mg base N_first_stand "first_stand" (defScope s_first_stand) (He.ga K "first_stand") cdv A outer s H E) (WD E) (defBody s_first_stand) m_first_stand := by
      have hN : N_first_stand.Nodup := by decide
      have hu := units_of hr
      have hp := passes_of (X := cxOf (L2.CX P w) P w K mg base N_first_stand "first_stand" (defScope s_first_stand) (He.ga K "first_stand") cdv A outer s H E) rfl
      have tk : Takes (cxOf (L2.CX P w) P w K mg base N_first_stand "first_stand" (defScope s_first_stand) (He.ga K "first_stand") cdv A outer s H E) (WD E) := takes_of rfl rfl rfl rfl
      have hc : (cxOf (L2.CX P w) P w K mg base N_first_stand "first_stand" (defScope s_first_stand) (He.ga K "first_stand") cdv A outer s H E).calm = true := rfl
      exact (ess_one (es_ret (ee_tup (ea_cons (ee_callTy true cb_tuple (ea_cons (ee_lc false rfl hN [("room", 1), ("engines", 2)] (ei_of (ee_var 0)) (by rfl) (fun _ _ _ _ _ => (eg_tup rfl (egs_cons (eg_name 1 hN) (egs_cons (eg_name 2 hN) egs_nil)))) (fun _ _ _ _ _ => ets_nil) (fun _ _ _ _ _ => (ee_var 2))) ea_nil) h.f_tuple bb_tuple) (ea_cons ee_int (ea_cons (ee_un (un_negD false) ee_int) ea_nil))))))
theorem ok_first_stand (h : Hd K mg) : FOk P w K mg base 1 (He.ga K "first_stand") 1 f_first_stand :=
  fok_of (N := N_first_stand) (ps := ["lines"]) m_first_stand h.F_first_stand sc_first_stand rfl rfl bd_first_stand (b_first_stand h)
def m_behind : SM := (sSeq (sAsg (gbTup (gbCons (gbName 3) (gbCons (gbName 4) (gbCons (gbName 5) gbNil)))) (eVar 1))
  (sSeq (sIf (tOrD (t2 eqG (eVar 2) (eC (.str "left"))) (t2 eqG (eVar 2) (eC (.str "right"))))
  (sRet (eTup (aCons (eVar 3) (aCons (e2 true modG (e2 false addG (eVar 4) (eIf (t2 eqG (eVar 2) (eC (.str "right"))) (eC (.int 1)) (e1 false negG (eC (.int 1))))) (eCall false lenG (aCons (eVar 0) aNil))) (aCons (eVar 5) aNil)))))
  sNil)
  (sSeq (sIf (t2 eqG (eVar 2) (eC (.str "take")))
  (sSeq (sIf (tOrD (t2 geG (eVar 5) (eC (.int 0))) (t2 eqG (e2 false ixG (eVar 3) (eVar 4)) (eTup aNil)))
  (sRet (eC .non))
  sNil)
  (sRet (eTup (aCons (e2 true addG (e2 false addG (eSl false (eVar 3) oNone (oSome (eVar 4))) (eTup (aCons (eSl false (e2 false ixG (eVar 3) (eVar 4)) (oSome (eC (.int 1))) oNone) aNil))) (eSl false (eVar 3) (oSome (e2 false addG (eVar 4) (eC (.int 1)))) oNone)) (aCons (eVar 4) (aCons (e2 false ixG (e2 false ixG (eVar 3) (eVar 4)) (eC (.int 0))) aNil))))))
  sNil)
  (sSeq (sIf (t2 eqG (eVar 2) (eC (.str "put")))
  (sSeq (sIf (tOrD (t2 ltG (eVar 5) (eC (.int 0))) (t2 geG (eCall false lenG (aCons (e2 false ixG (eVar 3) (eVar 4)) aNil)) (e2 false ixG (e2 false ixG (eVar 0) (eVar 4)) (eC (.int 0)))))
  (sRet (eC .non))
  sNil)
  (sRet (eTup (aCons (e2 true addG (e2 false addG (eSl false (eVar 3) oNone (oSome (eVar 4))) (eTup (aCons (e2 false addG (eTup (aCons (eVar 5) aNil)) (e2 false ixG (eVar 3) (eVar 4))) aNil))) (eSl false (eVar 3) (oSome (e2 false addG (eVar 4) (eC (.int 1)))) oNone)) (aCons (eVar 4) (aCons (e1 false negG (eC (.int 1))) aNil))))))
  sNil)
  (sSeq (sIf (tAndD (t2 eqG (eVar 2) (eC (.str "out"))) (tAndD (t2 geG (eVar 5) (eC (.int 0))) (t2 eqG (eVar 4) (eC (.int 0)))))
  (sRet (eTup (aCons (eVar 3) (aCons (eVar 4) (aCons (e1 false negG (eC (.int 1))) aNil)))))
  sNil)
  (sRet (eC .non)))))))
def f_behind : FM := fnM 3 m_behind
def N_behind : List Str := ["lines", "stand", "deed", "rows", "place", "engine"]
theorem sc_behind : FnScope N_behind ["lines", "stand", "deed"] (defScope s_behind) := ⟨rfl, rfl, rfl, by decide, by decide, by decide, by decide⟩
theorem bd_behind (kV doc pm : Value) (an : Option Addr) (cdv ct : Value) (us : List Value) (hl : us.length = (["lines", "stand", "deed"] : List Str).length) : bindArgs (PySem.W.fnOf "behind" "behind" (defArgs s_behind) (defBody s_behind) (defScope s_behind) .none kV doc pm an cdv ct) ⟨us, []⟩ = pure ((["lines", "stand", "deed"] : List Str).zip us) := match us, hl with | [_, _, _], _ => rfl
theorem b_behind (h : Hd K mg) (cdv : Value) (A : Around) (outer : List Env) (s : Shared) (H : Hp) (E : XK) (hr : Room 0 (A.deeper (envOfC "behind" (defScope s_behind) s.heap.objs.size (He.ga K "behind") cdv))) : ESs (cxOf (L2.CX P w) P w K mg base N_behind "behind" (defScope s_behind) (He.ga K "behind") cdv A outer s H E) (WD E) (defBody s_behind) m_behind := by
      have hN : N_behind.Nodup := by decide
      have hu := units_of hr
      have hp := passes_of (X := cxOf (L2.CX P w) P w K mg base N_behind "behind" (defScope s_behind) (He.ga K "behind") cdv A outer s H E) rfl
      have tk : Takes (cxOf (L2.CX P w) P w K mg base N_behind "behind" (defScope s_behind) (He.ga K "behind") cdv A outer s H E) (WD E) := takes_of rfl rfl rfl rfl
      have hc : (cxOf (L2.CX P w) P w K mg base N_behind "behind" (defScope s_behind) (He.ga K "behind") cdv A outer s H E).calm = true := rfl
      exact (ess_cons (es_asg (ee_var 1) (eg_tup rfl (egs_cons (eg_name 3 hN) (egs_cons (eg_name 4 hN) (egs_cons (eg_name 5 hN) egs_nil)))))
  (ess_cons (es_if (et_w (ew_or (et_cmp (op_eqDD hu) (ee_var 2) ee_str) (ew_or1 (et_cmp (op_eqDD hu) (ee_var 2) ee_str))))
  (ess_one (es_ret (ee_tup (ea_cons (ee_var 3) (ea_cons (ee_op op_modD true (ee_op op_addD false (ee_var 4) (ee_if (et_cmp (op_eqDD hu) (ee_var 2) ee_str) ee_int (ee_un (un_negD false) ee_int))) (ee_callB false cb_len (ea_cons (ee_var 0) ea_nil) h.f_len bb_len)) (ea_cons (ee_var 5) ea_nil))))))
  ess_nil)
  (ess_cons (es_if (et_cmp (op_eqDD hu) (ee_var 2) ee_str)
  (ess_cons (es_if (et_w (ew_or (et_cmp op_geD (ee_var 5) ee_int) (ew_or1 (et_cmp (op_eqDD hu) (ee_sub hu (ee_var 3) (ee_var 4)) (ee_tup ea_nil)))))
  (ess_one (es_ret ee_non))
  ess_nil)
  (ess_one (es_ret (ee_tup (ea_cons (ee_op op_addD true (ee_op op_addD false (ee_sl false (ee_var 3) eo_none (eo_some (ee_var 4))) (ee_tup (ea_cons (ee_sl false (ee_sub hu (ee_var 3) (ee_var 4)) (eo_some ee_int) eo_none) ea_nil))) (ee_sl false (ee_var 3) (eo_some (ee_op op_addD false (ee_var 4) ee_int)) eo_none)) (ea_cons (ee_var 4) (ea_cons (ee_sub hu (ee_sub hu (ee_var 3) (ee_var 4)) ee_int) ea_nil)))))))
  ess_nil)
  (ess_cons (es_if (et_cmp (op_eqDD hu) (ee_var 2) ee_str)
  (ess_cons (es_if (et_w (ew_or (et_cmp (op_ltD hu) (ee_var 5) ee_int) (ew_or1 (et_cmp op_geD (ee_callB false cb_len (ea_cons (ee_sub hu (ee_var 3) (ee_var 4)) ea_nil) h.f_len bb_len) (ee_sub hu (ee_sub hu (ee_var 0) (ee_var 4)) ee_int)))))
  (ess_one (es_ret ee_non))
  ess_nil)
  (ess_one (es_ret (ee_tup (ea_cons (ee_op op_addD true (ee_op op_addD false (ee_sl false (ee_var 3) eo_none (eo_some (ee_var 4))) (ee_tup (ea_cons (ee_op op_addD false (ee_tup (ea_cons (ee_var 5) ea_nil)) (ee_sub hu (ee_var 3) (ee_var 4))) ea_nil))) (ee_sl false (ee_var 3) (eo_some (ee_op op_addD false (ee_var 4) ee_int)) eo_none)) (ea_cons (ee_var 4) (ea_cons (ee_un (un_negD false) ee_int) ea_nil)))))))
  ess_nil)
  (ess_cons (es_if (et_w (ew_and (et_cmp (op_eqDD hu) (ee_var 2) ee_str) (ew_and (et_cmp op_geD (ee_var 5) ee_int) (ew_and1 (et_cmp (op_eqDD hu) (ee_var 4) ee_int)))))
  (ess_one (es_ret (ee_tup (ea_cons (ee_var 3) (ea_cons (ee_var 4) (ea_cons (ee_un (un_negD false) ee_int) ea_nil))))))
  ess_nil)
  (ess_one (es_ret ee_non)))))))
theorem ok_behind (h : Hd K mg) : FOk P w K mg base 1 (He.ga K "behind") 3 f_behind :=
  fok_of (N := N_behind) (ps := ["lines", "stand", "deed"]) m_behind h.F_behind sc_behind rfl rfl bd_behind (b_behind h)
def b0_there : SM := (sDrop (eMt exG (eVar 1) (eVar 2)))
def m_there : SM := (sSeq (sSet 1 (eIf (t2 geG (e2 false ixG (eVar 0) (eC (.int 2))) (eC (.int 0))) (eLst true (aCons (e2 false ixG (eVar 0) (eC (.int 2))) aNil)) (eLst true aNil)))
  (sSeq (sFor 0 (iOf (e2 false ixG (eVar 0) (eC (.int 0)))) (gbName 2)
  b0_there)
  (sRet (eCall true sortA (aCons (eVar 1) aNil)))))
def f_there : FM := fnM 2 m_there
def N_there : List Str := ["stand", "found", "row"]
theorem sc_there : FnScope N_there ["stand"] (defScope s_there) := ⟨rfl, rfl, rfl, by decide, by decide, by decide, by decide⟩
theorem bd_there (kV doc pm : Value) (an : Option Addr) (cdv ct : Value) (us : List Value) (hl : us.length = (["stand"] : List Str).length) : bindArgs (PySem.W.fnOf "there" "there" (defArgs s_there) (defBody s_there) (defScope s_there) .none kV doc pm an cdv ct) ⟨us, []⟩ = pure ((["stand"] : List Str).zip us) := match us, hl with | [_], _ => rfl
theorem b_there (h : Hd K mg) (cdv : Value) (A : Around) (outer : List Env) (s : Shared) (H : Hp) (E : XK) (hr : Room 0 (A.deeper (envOfC "there" (defScope s_there) s.heap.objs.size (He.ga K "there") cdv))) : ESs (cxOf (L2.CX P w) P w K mg base N_there "there" (defScope s_there) (He.ga K "there") cdv A outer s H E) (WD E) (defBody s_there) m_there := by
      have hN : N_there.Nodup := by decide
      have hu := units_of hr
      have hp := passes_of (X := cxOf (L2.CX P w) P w K mg base N_there "there" (defScope s_there) (He.ga K "there") cdv A outer s H E) rfl
      have tk : Takes (cxOf (L2.CX P w) P w K mg base N_there "there" (defScope s_there) (He.ga K "there") cdv A outer s H E) (WD E) := takes_of rfl rfl rfl rfl
      have hc : (cxOf (L2.CX P w) P w K mg base N_there "there" (defScope s_there) (He.ga K "there") cdv A outer s H E).calm = true := rfl
      exact (ess_cons (es_set 1 hN (ee_if (et_cmp op_geD (ee_sub hu (ee_var 0) ee_int) ee_int) (ee_lst true (ea_cons (ee_sub hu (ee_var 0) ee_int) ea_nil)) (ee_lst true ea_nil)))
  (ess_cons (es_for 0 hp rfl (ei_of (ee_sub hu (ee_var 0) ee_int)) (eg_name 2 hN)
  (ess_one (es_expr (ee_extend (ee_var 1) (ee_var 2)))))
  (ess_one (es_ret (ee_callB true (cb_sortA rfl hu) (ea_cons (ee_var 1) ea_nil) h.f_sorted bb_sorted)))))
theorem ok_there (h : Hd K mg) : FOk P w K mg base 1 (He.ga K "there") 1 f_there :=
  fok_of (N := N_there) (ps := ["stand"]) m_there h.F_there sc_there rfl rfl bd_there (b_there h)
def m_next_of : SM := (sRet (e2 false ixG (eVar 0) (e2 false subG (eCall false lenG (aCons (eVar 0) aNil)) (eCall false lenG (aCons (eCallP 1 f_there (aCons (eVar 1) aNil)) aNil)))))
def f_next_of : FM := fnM 0 m_next_of
def N_next_of : List Str := ["order", "stand"]
theorem sc_next_of : FnScope N_next_of ["order", "stand"] (defScope s_next_of) := ⟨rfl, rfl, rfl, by decide, by decide, by decide, by decide⟩
theorem bd_next_of (kV doc pm : Value) (an : Option Addr) (cdv ct : Value) (us : List Value) (hl : us.length = (["order", "stand"] : List Str).length) : bindArgs (PySem.W.fnOf "next_of" "next_of" (defArgs s_next_of) (defBody s_next_of) (defScope s_next_of) .none kV doc pm an cdv ct) ⟨us, []⟩ = pure ((["order", "stand"] : List Str).zip us) := match us, hl with | [_, _], _ => rfl
theorem b_next_of (h : Hd K mg) (cdv : Value) (A : Around) (outer : List Env) (s : Shared) (H : Hp) (E : XK) (hr : Room 1 (A.deeper (envOfC "next_of" (defScope s_next_of) s.heap.objs.size (He.ga K "next_of") cdv))) : ESs (cxOf (L2.CX P w) P w K mg base N_next_of "next_of" (defScope s_next_of) (He.ga K "next_of") cdv A outer s H E) (WD E) (defBody s_next_of) m_next_of := by
      have hN : N_next_of.Nodup := by decide
      have hu := units_of hr
      have hp := passes_of (X := cxOf (L2.CX P w) P w K mg base N_next_of "next_of" (defScope s_next_of) (He.ga K "next_of") cdv A outer s H E) rfl
      have tk : Takes (cxOf (L2.CX P w) P w K mg base N_next_of "next_of" (defScope s_next_of) (He.ga K "next_of") cdv A outer s H E) (WD E) := takes_of rfl rfl rfl rfl
      have hc : (cxOf (L2.CX P w) P w K mg base N_next_of "next_of" (defScope s_next_of) (He.ga K "next_of") cdv A outer s H E).calm = true := rfl
      exact (ess_one (es_ret (ee_sub hu (ee_var 0) (ee_op op_subD false (ee_callB false cb_len (ea_cons (ee_var 0) ea_nil) h.f_len bb_len) (ee_callB false cb_len (ea_cons (ec_callP tk (ok_there h) (hr.mono (by decide)) h.g_there h.k_there (ea_cons (ee_var 1) ea_nil)) ea_nil) h.f_len bb_len)))))
theorem ok_next_of (h : Hd K mg) : FOk P w K mg base 2 (He.ga K "next_of") 2 f_next_of :=
  fok_of (N := N_next_of) (ps := ["order", "stand"]) m_next_of h.F_next_of sc_next_of rfl rfl bd_next_of (b_next_of h)
def b0_kept : SM := (sIf (tOrD (t2 neG (eVar 4) (eC (.str "out"))) (t2 eqG (e2 false ixG (eVar 2) (eC (.int 2))) (eCallP 2 f_next_of (aCons (eVar 1) (aCons (eVar 2) aNil)))))
  (sSeq (sSet 5 (eCallP 3 f_behind (aCons (eVar 0) (aCons (eVar 2) (aCons (eVar 4) aNil)))))
  (sIf (t2 isNotG (eVar 5) (eC .non))
  (sDrop (eMt apG (eVar 3) (eTup (aCons (eVar 4) (aCons (eVar 5) aNil)))))
  sNil))
  sNil)
def m_kept : SM := (sSeq (sSet 3 (eLst true aNil))
  (sSeq (sFor 0 (iOf (eC c_DEEDS)) (gbName 4)
  b0_kept)
  (sRet (eVar 3))))
def f_kept : FM := fnM 3 m_kept
def N_kept : List Str := ["lines", "order", "stand", "found", "deed", "other"]
theorem sc_kept : FnScope N_kept ["lines", "order", "stand"] (defScope s_kept) := ⟨rfl, rfl, rfl, by decide, by decide, by decide, by decide⟩
theorem bd_kept (kV doc pm : Value) (an : Option Addr) (cdv ct : Value) (us : List Value) (hl : us.length = (["lines", "order", "stand"] : List Str).length) : bindArgs (PySem.W.fnOf "kept" "kept" (defArgs s_kept) (defBody s_kept) (defScope s_kept) .none kV doc pm an cdv ct) ⟨us, []⟩ = pure ((["lines", "order", "stand"] : List Str).zip us) := match us, hl with | [_, _, _], _ => rfl
theorem b_kept (h : Hd K mg) (cdv : Value) (A : Around) (outer : List Env) (s : Shared) (H : Hp) (E : XK) (hr : Room 2 (A.deeper (envOfC "kept" (defScope s_kept) s.heap.objs.size (He.ga K "kept") cdv))) : ESs (cxOf (L2.CX P w) P w K mg base N_kept "kept" (defScope s_kept) (He.ga K "kept") cdv A outer s H E) (WD E) (defBody s_kept) m_kept := by
      have hN : N_kept.Nodup := by decide
      have hu := units_of hr
      have hp := passes_of (X := cxOf (L2.CX P w) P w K mg base N_kept "kept" (defScope s_kept) (He.ga K "kept") cdv A outer s H E) rfl
      have tk : Takes (cxOf (L2.CX P w) P w K mg base N_kept "kept" (defScope s_kept) (He.ga K "kept") cdv A outer s H E) (WD E) := takes_of rfl rfl rfl rfl
      have hc : (cxOf (L2.CX P w) P w K mg base N_kept "kept" (defScope s_kept) (He.ga K "kept") cdv A outer s H E).calm = true := rfl
      exact (ess_cons (es_set 3 hN (ee_lst true ea_nil))
  (ess_cons (es_for 0 hp rfl (ei_of (h.x_DEEDS _ _ rfl rfl rfl)) (eg_name 4 hN)
  (ess_one (es_if (et_w (ew_or (et_cmp (op_neDD hu) (ee_var 4) ee_str) (ew_or1 (et_cmp (op_eqDD hu) (ee_sub hu (ee_var 2) ee_int) (ec_callP tk (ok_next_of h) (hr.mono (by decide)) h.g_next_of h.k_next_of (ea_cons (ee_var 1) (ea_cons (ee_var 2) ea_nil)))))))
  (ess_cons (es_set 5 hN (ec_callP tk (ok_behind h) (hr.mono (by decide)) h.g_behind h.k_behind (ea_cons (ee_var 0) (ea_cons (ee_var 2) (ea_cons (ee_var 4) ea_nil)))))
  (ess_one (es_if (et_cmp op_isNotD (ee_var 5) ee_non)
  (ess_one (es_expr (ee_append (ee_var 3) (ee_tup (ea_cons (ee_var 4) (ea_cons (ee_var 5) ea_nil))))))
  ess_nil)))
  ess_nil)))
  (ess_one (es_ret (ee_var 3)))))
theorem ok_kept (h : Hd K mg) : FOk P w K mg base 3 (He.ga K "kept") 3 f_kept :=
  fok_of (N := N_kept) (ps := ["lines", "order", "stand"]) m_kept h.F_kept sc_kept rfl rfl bd_kept (b_kept h)
def m_is_last : SM := (sRet (eAnd (e2 false eqG (e2 false ixG (eVar 0) (eC (.int 1))) (eC (.int 0))) (eAnd (e2 false geG (e2 false ixG (eVar 0) (eC (.int 2))) (eC (.int 0))) (e2 false eqG (eCallP 1 f_there (aCons (eVar 0) aNil)) (eLst false (aCons (e2 false ixG (eVar 0) (eC (.int 2))) aNil))))))
def f_is_last : FM := fnM 0 m_is_last
def N_is_last : List Str := ["stand"]
theorem sc_is_last : FnScope N_is_last ["stand"] (defScope s_is_last) := ⟨rfl, rfl, rfl, by decide, by decide, by decide, by decide⟩
theorem bd_is_last (kV doc pm : Value) (an : Option Addr) (cdv ct : Value) (us : List Value) (hl : us.length = (["stand"] : List Str).length) : bindArgs (PySem.W.fnOf "is_last" "is_last" (defArgs s_is_last) (defBody s_is_last) (defScope s_is_last) .none kV doc pm an cdv ct) ⟨us, []⟩ = pure ((["stand"] : List Str).zip us) := match us, hl with | [_], _ => rfl
theorem b_is_last (h : Hd K mg) (cdv : Value) (A : Around) (outer : List Env) (s : Shared) (H : Hp) (E : XK) (hr : Room 1 (A.deeper (envOfC "is_last" (defScope s_is_last) s.heap.objs.size (He.ga K "is_last") cdv))) : ESs (cxOf (L2.CX P w) P w K mg base N_is_last "is_last" (defScope s_is_last) (He.ga K "is_last") cdv A outer s H E) (WD E) (defBody s_is_last) m_is_last := by
      have hN : N_is_last.Nodup := by decide
      have hu := units_of hr
      have hp := passes_of (X := cxOf (L2.CX P w) P w K mg base N_is_last "is_last" (defScope s_is_last) (He.ga K "is_last") cdv A outer s H E) rfl
      have tk : Takes (cxOf (L2.CX P w) P w K mg base N_is_last "is_last" (defScope s_is_last) (He.ga K "is_last") cdv A outer s H E) (WD E) := takes_of rfl rfl rfl rfl
      have hc : (cxOf (L2.CX P w) P w K mg base N_is_last "is_last" (defScope s_is_last) (He.ga K "is_last") cdv A outer s H E).calm = true := rfl
      exact (ess_one (es_ret (ee_and (ee_cmp (op_eqDD hu) (ee_sub hu (ee_var 0) ee_int) ee_int) (ee_and (ee_cmp op_geD (ee_sub hu (ee_var 0) ee_int) ee_int) (ee_one (ee_cmp (op_eqDD hu) (ec_callP tk (ok_there h) (hr.mono (by decide)) h.g_there h.k_there (ea_cons (ee_var 0) ea_nil)) (ee_lst false (ea_cons (ee_sub hu (ee_var 0) ee_int) ea_nil))))))))
theorem ok_is_last (h : Hd K mg) : FOk P w K mg base 2 (He.ga K "is_last") 1 f_is_last :=
  fok_of (N := N_is_last) (ps := ["stand"]) m_is_last h.F_is_last sc_is_last rfl rfl bd_is_last (b_is_last h)
def m_gone_by : SM := (sSeq (sPar [2, 3] (aCons (eCallP 1 f_first_stand (aCons (eVar 0) aNil)) (aCons (eLst true aNil) aNil)))
  (sSeq (sFor 0 (iEnu (eVar 1)) (gbTup (gbCons (gbName 4) (gbCons (gbName 5) gbNil)))
  (sSeq (sSet 6 (eCallP 3 f_behind (aCons (eVar 0) (aCons (eVar 2) (aCons (eVar 5) aNil)))))
  (sSeq (sIf (t2 isG (eVar 6) (eC .non))
  (sRet (eTup (aCons (eVar 2) (aCons (eVar 3) (aCons (eVar 4) aNil)))))
  sNil)
  (sSeq (sIf (t2 eqG (eVar 5) (eC (.str "out")))
  (sDrop (eMt apG (eVar 3) (e2 false ixG (eVar 2) (eC (.int 2)))))
  sNil)
  (sSet 2 (eVar 6))))))
  (sRet (eTup (aCons (eVar 2) (aCons (eVar 3) (aCons (e1 false negG (eC (.int 1))) aNil)))))))
def f_gone_by : FM := fnM 5 m_gone_by
def N_gone_by : List Str := ["lines", "deeds", "stand", "gone", "place", "deed", "other"]
theorem sc_gone_by : FnScope N_gone_by ["lines", "deeds"] (defScope s_gone_by) := ⟨rfl, rfl, rfl, by decide, by decide, by decide, by decide⟩
theorem bd_gone_by (kV doc pm : Value) (an : Option Addr) (cdv ct : Value) (us : List Value) (hl : us.length = (["lines", "deeds"] : List Str).length) : bindArgs (PySem.W.fnOf "gone_by" "gone_by" (defArgs s_gone_by) (defBody s_gone_by) (defScope s_gone_by) .none kV doc pm an cdv ct) ⟨us, []⟩ = pure ((["lines", "deeds"] : List Str).zip us) := match us, hl with | [_, _], _ => rfl
theorem b_gone_by (h : Hd K mg) (cdv : Value) (A : Around) (outer : List Env) (s : Shared) (H : Hp) (E : XK) (hr : Room 1 (A.deeper (envOfC "gone_by" (defScope s_gone_by) s.heap.objs.size (He.ga K "gone_by") cdv))) : ESs (cxOf (L2.CX P w) P w K mg base N_gone_by "gone_by" (defScope s_gone_by) (He.ga K "gone_by") cdv A outer s H E) (WD E) (defBody s_gone_by) m_gone_by := by
      have hN : N_gone_by.Nodup := by decide
      have hu := units_of hr
      have hp := passes_of (X := cxOf (L2.CX P w) P w K mg base N_gone_by "gone_by" (defScope s_gone_by) (He.ga K "gone_by") cdv A outer s H E) rfl
      have tk : Takes (cxOf (L2.CX P w) P w K mg base N_gone_by "gone_by" (defScope s_gone_by) (He.ga K "gone_by") cdv A outer s H E) (WD E) := takes_of rfl rfl rfl rfl
      have hc : (cxOf (L2.CX P w) P w K mg base N_gone_by "gone_by" (defScope s_gone_by) (He.ga K "gone_by") cdv A outer s H E).calm = true := rfl
      exact (ess_cons (es_par (i := 2) (j := 3) rfl hN (ea_cons (ec_callP tk (ok_first_stand h) (hr.mono (by decide)) h.g_first_stand h.k_first_stand (ea_cons (ee_var 0) ea_nil)) (ea_cons (ee_lst true ea_nil) ea_nil)))
  (ess_cons (es_for 0 hp rfl (ei_enu (ee_var 1) h.f_enumerate) (eg_tup rfl (egs_cons (eg_name 4 hN) (egs_cons (eg_name 5 hN) egs_nil)))
  (ess_cons (es_set 6 hN (ec_callP tk (ok_behind h) (hr.mono (by decide)) h.g_behind h.k_behind (ea_cons (ee_var 0) (ea_cons (ee_var 2) (ea_cons (ee_var 5) ea_nil)))))
  (ess_cons (es_if (et_cmp op_isD (ee_var 6) ee_non)
  (ess_one (es_ret (ee_tup (ea_cons (ee_var 2) (ea_cons (ee_var 3) (ea_cons (ee_var 4) ea_nil))))))
  ess_nil)
  (ess_cons (es_if (et_cmp (op_eqDD hu) (ee_var 5) ee_str)
  (ess_one (es_expr (ee_append (ee_var 3) (ee_sub hu (ee_var 2) ee_int))))
  ess_nil)
  (ess_one (es_set 2 hN (ee_var 6)))))))
  (ess_one (es_ret (ee_tup (ea_cons (ee_var 2) (ea_cons (ee_var 3) (ea_cons (ee_un (un_negD false) ee_int) ea_nil))))))))
theorem ok_gone_by (h : Hd K mg) : FOk P w K mg base 2 (He.ga K "gone_by") 2 f_gone_by :=
  fok_of (N := N_gone_by) (ps := ["lines", "deeds"]) m_gone_by h.F_gone_by sc_gone_by rfl rfl bd_gone_by (b_gone_by h)
def b0_heights_of : SM := (sIf (tAndD (tNotD (tAndD (t2 eqG (eVar 7) (eC (.str "out"))) (tOf (eCallP 1 f_is_last (aCons (eVar 6) aNil))))) (t2 notInG (eVar 8) (eVar 3)))
  (sSeq (sPut (e2 false addG (e2 false ixG (eVar 3) (eVar 6)) (eLst false (aCons (eVar 7) aNil))) (eVar 3) (eVar 8))
  (sDrop (eMt apG (eVar 5) (eVar 8))))
  sNil)
def b1_heights_of : SM := (sFor 0 (iOf (eCallP 3 f_kept (aCons (eVar 0) (aCons (eVar 1) (aCons (eVar 6) aNil))))) (gbTup (gbCons (gbName 7) (gbCons (gbName 8) gbNil)))
  b0_heights_of)
def m_heights_of : SM := (sSeq (sSet 2 (eCallP 1 f_first_stand (aCons (eVar 0) aNil)))
  (sSeq (sPar [3, 4] (aCons eDict (aCons (eLst false (aCons (eVar 2) aNil)) aNil)))
  (sSeq (sPut (eLst false aNil) (eVar 3) (eVar 2))
  (sSeq (sWhile 100000 (t2 neG (eVar 4) (eLst false aNil))
  (sSeq (sSet 5 (eLst true aNil))
  (sSeq (sFor 0 (iOf (eVar 4)) (gbName 6)
  b1_heights_of)
  (sSet 4 (eVar 5)))))
  (sRet (eVar 3))))))
def f_heights_of : FM := fnM 7 m_heights_of
def N_heights_of : List Str := ["lines", "order", "first", "found", "line", "more", "stand", "deed", "other"]
theorem sc_heights_of : FnScope N_heights_of ["lines", "order"] (defScope s_heights_of) := ⟨rfl, rfl, rfl, by decide, by decide, by decide, by decide⟩
theorem bd_heights_of (kV doc pm : Value) (an : Option Addr) (cdv ct : Value) (us : List Value) (hl : us.length = (["lines", "order"] : List Str).length) : bindArgs (PySem.W.fnOf "heights_of" "heights_of" (defArgs s_heights_of) (defBody s_heights_of) (defScope s_heights_of) .none kV doc pm an cdv ct) ⟨us, []⟩ = pure ((["lines", "order"] : List Str).zip us) := match us, hl with | [_, _], _ => rfl
theorem b_heights_of (h : Hd K mg) (cdv : Value) (A : Around) (outer : List Env) (s : Shared) (H : Hp) (E : XK) (hr : Room 3 (A.deeper (envOfC "heights_of" (defScope s_heights_of) s.heap.objs.size (He.ga K "heights_of") cdv))) : ESs (cxOf (L2.CX P w) P w K mg base N_heights_of "heights_of" (defScope s_heights_of) (He.ga K "heights_of") cdv A outer s H E) (WD E) (defBody s_heights_of) m_heights_of := by
      have hN : N_heights_of.Nodup := by decide
      have hu := units_of hr
      have hp := passes_of (X := cxOf (L2.CX P w) P w K mg base N_heights_of "heights_of" (defScope s_heights_of) (He.ga K "heights_of") cdv A outer s H E) rfl
      have tk : Takes (cxOf (L2.CX P w) P w K mg base N_heights_of "heights_of" (defScope s_heights_of) (He.ga K "heights_of") cdv A outer s H E) (WD E) := takes_of rfl rfl rfl rfl
      have hc : (cxOf (L2.CX P w) P w K mg base N_heights_of "heights_of" (defScope s_heights_of) (He.ga K "heights_of") cdv A outer s H E).calm = true := rfl
      exact (ess_cons (es_set 2 hN (ec_callP tk (ok_first_stand h) (hr.mono (by decide)) h.g_first_stand h.k_first_stand (ea_cons (ee_var 0) ea_nil)))
  (ess_cons (es_par (i := 3) (j := 4) rfl hN (ea_cons ee_dict (ea_cons (ee_lst false (ea_cons (ee_var 2) ea_nil)) ea_nil)))
  (ess_cons (es_put hu (ee_lst false ea_nil) (ee_var 3) (ee_var 2))
  (ess_cons (es_while 100000 hp (et_cmp (op_neDD hu) (ee_var 4) (ee_lst false ea_nil))
  (ess_cons (es_set 5 hN (ee_lst true ea_nil))
  (ess_cons (es_for 0 hp rfl (ei_of (ee_var 4)) (eg_name 6 hN)
  (ess_one (es_for 0 hp rfl (ei_of (ec_callP tk (ok_kept h) (hr.mono (by decide)) h.g_kept h.k_kept (ea_cons (ee_var 0) (ea_cons (ee_var 1) (ea_cons (ee_var 6) ea_nil))))) (eg_tup rfl (egs_cons (eg_name 7 hN) (egs_cons (eg_name 8 hN) egs_nil)))
  (ess_one (es_if (et_w (ew_and (et_not (et_w (ew_and (et_cmp (op_eqDD hu) (ee_var 7) ee_str) (ew_and1 (et_of (ec_callP tk (ok_is_last h) (hr.mono (by decide)) h.g_is_last h.k_is_last (ea_cons (ee_var 6) ea_nil))))))) (ew_and1 (et_cmp (op_notInDD hu) (ee_var 8) (ee_var 3)))))
  (ess_cons (es_put hu (ee_op op_addD false (ee_sub hu (ee_var 3) (ee_var 6)) (ee_lst false (ea_cons (ee_var 7) ea_nil))) (ee_var 3) (ee_var 8))
  (ess_one (es_expr (ee_append (ee_var 5) (ee_var 8)))))
  ess_nil)))))
  (ess_one (es_set 4 hN (ee_var 5))))))
  (ess_one (es_ret (ee_var 3)))))))
theorem ok_heights_of (h : Hd K mg) : FOk P w K mg base 4 (He.ga K "heights_of") 2 f_heights_of :=
  fok_of (N := N_heights_of) (ps := ["lines", "order"]) m_heights_of h.F_heights_of sc_heights_of rfl rfl bd_heights_of (b_heights_of h)
def m_brings : SM := (sSeq (sAsg (gbTup (gbCons (gbName 3) (gbCons (gbName 4) (gbCons (gbName 5) gbNil)))) (eCallP 2 f_gone_by (aCons (eVar 0) (aCons (eVar 2) aNil))))
  (sRet (eAnd (e2 false ltG (eVar 5) (eC (.int 0))) (eAnd (e2 false neG (eVar 2) (eLst false aNil)) (eAnd (e2 false eqG (e2 false ixG (eVar 2) (e1 false negG (eC (.int 1)))) (eC (.str "out"))) (e2 false eqG (eVar 4) (eVar 1)))))))
def f_brings : FM := fnM 3 m_brings
def N_brings : List Str := ["lines", "order", "deeds", "stand", "gone", "place"]
theorem sc_brings : FnScope N_brings ["lines", "order", "deeds"] (defScope s_brings) := ⟨rfl, rfl, rfl, by decide, by decide, by decide, by decide⟩
theorem bd_brings (kV doc pm : Value) (an : Option Addr) (cdv ct : Value) (us : List Value) (hl : us.length = (["lines", "order", "deeds"] : List Str).length) : bindArgs (PySem.W.fnOf "brings" "brings" (defArgs s_brings) (defBody s_brings) (defScope s_brings) .none kV doc pm an cdv ct) ⟨us, []⟩ = pure ((["lines", "order", "deeds"] : List Str).zip us) := match us, hl with | [_, _, _], _ => rfl
theorem b_brings (h : Hd K mg) (cdv : Value) (A : Around) (outer : List Env) (s : Shared) (H : Hp) (E : XK) (hr : Room 2 (A.deeper (envOfC "brings" (defScope s_brings) s.heap.objs.size (He.ga K "brings") cdv))) : ESs (cxOf (L2.CX P w) P w K mg base N_brings "brings" (defScope s_brings) (He.ga K "brings") cdv A outer s H E) (WD E) (defBody s_brings) m_brings := by
      have hN : N_brings.Nodup := by decide
      have hu := units_of hr
      have hp := passes_of (X := cxOf (L2.CX P w) P w K mg base N_brings "brings" (defScope s_brings) (He.ga K "brings") cdv A outer s H E) rfl
      have tk : Takes (cxOf (L2.CX P w) P w K mg base N_brings "brings" (defScope s_brings) (He.ga K "brings") cdv A outer s H E) (WD E) := takes_of rfl rfl rfl rfl
      have hc : (cxOf (L2.CX P w) P w K mg base N_brings "brings" (defScope s_brings) (He.ga K "brings") cdv A outer s H E).calm = true := rfl
      exact (ess_cons (es_asg (ec_callP tk (ok_gone_by h) (hr.mono (by decide)) h.g_gone_by h.k_gone_by (ea_cons (ee_var 0) (ea_cons (ee_var 2) ea_nil))) (eg_tup rfl (egs_cons (eg_name 3 hN) (egs_cons (eg_name 4 hN) (egs_cons (eg_name 5 hN) egs_nil)))))
  (ess_one (es_ret (ee_and (ee_cmp (op_ltD hu) (ee_var 5) ee_int) (ee_and (ee_cmp (op_neDD hu) (ee_var 2) (ee_lst false ea_nil)) (ee_and (ee_cmp (op_eqDD hu) (ee_sub hu (ee_var 2) (ee_un (un_negD false) ee_int)) ee_str) (ee_one (ee_cmp (op_eqDD hu) (ee_var 4) (ee_var 1)))))))))
theorem ok_brings (h : Hd K mg) : FOk P w K mg base 3 (He.ga K "brings") 3 f_brings :=
  fok_of (N := N_brings) (ps := ["lines", "order", "deeds"]) m_brings h.F_brings sc_brings rfl rfl bd_brings (b_brings h)
def m_Within_init : SM := (sFldM cs_deeds "deeds" (eCall true lisG (aCons (eVar 1) aNil)) (eVar 0))
def f_Within_init : FM := fnM 0 m_Within_init
def N_Within_init : List Str := ["self", "deeds"]
theorem sc_Within_init : FnScope N_Within_init ["self", "deeds"] (defScope s_Within_init) := ⟨rfl, rfl, rfl, by decide, by decide, by decide, by decide⟩
theorem bd_Within_init (kV doc pm : Value) (an : Option Addr) (cdv ct : Value) (us : List Value) (hl : us.length = (["self", "deeds"] : List Str).length) : bindArgs (PySem.W.fnOf "__init__" "Within.__init__" (defArgs s_Within_init) (defBody s_Within_init) (defScope s_Within_init) .none kV doc pm an cdv ct) ⟨us, []⟩ = pure ((["self", "deeds"] : List Str).zip us) := match us, hl with | [_, _], _ => rfl
theorem b_Within_init (h : Hd K mg) (cdv : Value) (A : Around) (outer : List Env) (s : Shared) (H : Hp) (E : XK) (hr : Room 0 (A.deeper (envOfC "Within.__init__" (defScope s_Within_init) s.heap.objs.size (He.ma K (He.ga K "Within") "__init__") cdv))) : ESs (cxOf (L2.CX P w) P w K mg base N_Within_init "Within.__init__" (defScope s_Within_init) (He.ma K (He.ga K "Within") "__init__") cdv A outer s H E) (WD E) (defBody s_Within_init) m_Within_init := by
      have hN : N_Within_init.Nodup := by decide
      have hu := units_of hr
      have hp := passes_of (X := cxOf (L2.CX P w) P w K mg base N_Within_init "Within.__init__" (defScope s_Within_init) (He.ma K (He.ga K "Within") "__init__") cdv A outer s H E) rfl
      have tk : Takes (cxOf (L2.CX P w) P w K mg base N_Within_init "Within.__init__" (defScope s_Within_init) (He.ma K (He.ga K "Within") "__init__") cdv A outer s H E) (WD E) := takes_of rfl rfl rfl rfl
      have hc : (cxOf (L2.CX P w) P w K mg base N_Within_init "Within.__init__" (defScope s_Within_init) (He.ma K (He.ga K "Within") "__init__") cdv A outer s H E).calm = true := rfl
      exact (ess_one (es_fld cs_deeds h.at_deeds (ee_var 0) (ee_callTy true cb_list (ea_cons (ee_var 1) ea_nil) h.f_list bb_list)))
theorem ok_Within_init (h : Hd K mg) : FOk P w K mg base 1 (He.ma K (He.ga K "Within") "__init__") 2 f_Within_init :=
  fok_of (N := N_Within_init) (ps := ["self", "deeds"]) m_Within_init h.F_Within_init sc_Within_init rfl rfl bd_Within_init (b_Within_init h)
def m_Within_shows : SM := (sSeq (sIf (tOrD (t2 gtG (eCall false lenG (aCons (eFldC cs_deeds "deeds" (eVar 0)) aNil)) (eVar 3)) (tNotD (tOf (eCall false allG (aCons (eLc false (iOf (eFldC cs_deeds "deeds" (eVar 0))) (gbName 4) tYesD (eCallP 1 f_is_deed (aCons (eVar 4) aNil)) [4]) aNil)))))
  (sRet (eC (.bl false)))
  sNil)
  (sRet (eCallP 3 f_brings (aCons (eVar 1) (aCons (eVar 2) (aCons (eFldC cs_deeds "deeds" (eVar 0)) aNil))))))
def f_Within_shows : FM := fnM 1 m_Within_shows
def N_Within_shows : List Str := ["self", "lines", "order", "many", "deed"]
theorem sc_Within_shows : FnScope N_Within_shows ["self", "lines", "order", "many"] (defScope s_Within_shows) := ⟨rfl, rfl, rfl, by decide, by decide, by decide, by decide⟩
theorem bd_Within_shows (kV doc pm : Value) (an : Option Addr) (cdv ct : Value) (us : List Value) (hl : us.length = (["self", "lines", "order", "many"] : List Str).length) : bindArgs (PySem.W.fnOf "shows" "Within.shows" (defArgs s_Within_shows) (defBody s_Within_shows) (defScope s_Within_shows) .none kV doc pm an cdv ct) ⟨us, []⟩ = pure ((["self", "lines", "order", "many"] : List Str).zip us) := match us, hl with | [_, _, _, _], _ => rfl
theorem b_Within_shows (h : Hd K mg) (cdv : Value) (A : Around) (outer : List Env) (s : Shared) (H : Hp) (E : XK) (hr : Room 3 (A.deeper (envOfC "Within.shows" (defScope s_Within_shows) s.heap.objs.size (He.ma K (He.ga K "Within") "shows") cdv))) : ESs (cxOf (L2.CX P w) P w K mg base N_Within_shows "Within.shows" (defScope s_Within_shows) (He.ma K (He.ga K "Within") "shows") cdv A outer s H E) (WD E) (defBody s_Within_shows) m_Within_shows := by
      have hN : N_Within_shows.Nodup := by decide
      have hu := units_of hr
      have hp := passes_of (X := cxOf (L2.CX P w) P w K mg base N_Within_shows "Within.shows" (defScope s_Within_shows) (He.ma K (He.ga K "Within") "shows") cdv A outer s H E) rfl
      have tk : Takes (cxOf (L2.CX P w) P w K mg base N_Within_shows "Within.shows" (defScope s_Within_shows) (He.ma K (He.ga K "Within") "shows") cdv A outer s H E) (WD E) := takes_of rfl rfl rfl rfl
      have hc : (cxOf (L2.CX P w) P w K mg base N_Within_shows "Within.shows" (defScope s_Within_shows) (He.ma K (He.ga K "Within") "shows") cdv A outer s H E).calm = true := rfl
      exact (ess_cons (es_if (et_w (ew_or (et_cmp op_gtD (ee_callB false cb_len (ea_cons (ee_fld cs_deeds h.at_deeds (ee_var 0)) ea_nil) h.f_len bb_len) (ee_var 3)) (ew_or1 (et_not (et_of (ee_callB false (cb_all rfl) (ea_cons (ee_lc false rfl hN [("deed", 4)] (ei_of (ee_fld cs_deeds h.at_deeds (ee_var 0))) (by rfl) (fun _ _ _ _ _ => (eg_name 4 hN)) (fun _ _ _ _ _ => ets_nil) (fun _ _ _ _ _ => (ec_callP takes0 (ok_is_deed h) (hr.mono (by decide)) h.g_is_deed h.k_is_deed (ea_cons (ee_var 4) ea_nil)))) ea_nil) h.f_all bb_all))))))
  (ess_one (es_ret ee_bl))
  ess_nil)
  (ess_one (es_ret (ec_callP tk (ok_brings h) (hr.mono (by decide)) h.g_brings h.k_brings (ea_cons (ee_var 1) (ea_cons (ee_var 2) (ea_cons (ee_fld cs_deeds h.at_deeds (ee_var 0)) ea_nil)))))))
theorem ok_Within_shows (h : Hd K mg) : FOk P w K mg base 4 (He.ma K (He.ga K "Within") "shows") 4 f_Within_shows :=
  fok_of (N := N_Within_shows) (ps := ["self", "lines", "order", "many"]) m_Within_shows h.F_Within_shows sc_Within_shows rfl rfl bd_Within_shows (b_Within_shows h)
def m_Beyond_init : SM := (sFldM cs_heights "heights" (eCall true lisG (aCons (eVar 1) aNil)) (eVar 0))
def f_Beyond_init : FM := fnM 0 m_Beyond_init
def N_Beyond_init : List Str := ["self", "heights"]
theorem sc_Beyond_init : FnScope N_Beyond_init ["self", "heights"] (defScope s_Beyond_init) := ⟨rfl, rfl, rfl, by decide, by decide, by decide, by decide⟩
theorem bd_Beyond_init (kV doc pm : Value) (an : Option Addr) (cdv ct : Value) (us : List Value) (hl : us.length = (["self", "heights"] : List Str).length) : bindArgs (PySem.W.fnOf "__init__" "Beyond.__init__" (defArgs s_Beyond_init) (defBody s_Beyond_init) (defScope s_Beyond_init) .none kV doc pm an cdv ct) ⟨us, []⟩ = pure ((["self", "heights"] : List Str).zip us) := match us, hl with | [_, _], _ => rfl
theorem b_Beyond_init (h : Hd K mg) (cdv : Value) (A : Around) (outer : List Env) (s : Shared) (H : Hp) (E : XK) (hr : Room 0 (A.deeper (envOfC "Beyond.__init__" (defScope s_Beyond_init) s.heap.objs.size (He.ma K (He.ga K "Beyond") "__init__") cdv))) : ESs (cxOf (L2.CX P w) P w K mg base N_Beyond_init "Beyond.__init__" (defScope s_Beyond_init) (He.ma K (He.ga K "Beyond") "__init__") cdv A outer s H E) (WD E) (defBody s_Beyond_init) m_Beyond_init := by
      have hN : N_Beyond_init.Nodup := by decide
      have hu := units_of hr
      have hp := passes_of (X := cxOf (L2.CX P w) P w K mg base N_Beyond_init "Beyond.__init__" (defScope s_Beyond_init) (He.ma K (He.ga K "Beyond") "__init__") cdv A outer s H E) rfl
      have tk : Takes (cxOf (L2.CX P w) P w K mg base N_Beyond_init "Beyond.__init__" (defScope s_Beyond_init) (He.ma K (He.ga K "Beyond") "__init__") cdv A outer s H E) (WD E) := takes_of rfl rfl rfl rfl
      have hc : (cxOf (L2.CX P w) P w K mg base N_Beyond_init "Beyond.__init__" (defScope s_Beyond_init) (He.ma K (He.ga K "Beyond") "__init__") cdv A outer s H E).calm = true := rfl
      exact (ess_one (es_fld cs_heights h.at_heights (ee_var 0) (ee_callTy true cb_list (ea_cons (ee_var 1) ea_nil) h.f_list bb_list)))
theorem ok_Beyond_init (h : Hd K mg) : FOk P w K mg base 1 (He.ma K (He.ga K "Beyond") "__init__") 2 f_Beyond_init :=
  fok_of (N := N_Beyond_init) (ps := ["self", "heights"]) m_Beyond_init h.F_Beyond_init sc_Beyond_init rfl rfl bd_Beyond_init (b_Beyond_init h)
def m_least_way : SM := (sSeq (sSet 1 (eLc false (iOf (eCall false sortA (aCons (eVar 0) aNil))) (gbName 3) (tOf (eCallP 1 f_is_last (aCons (eVar 3) aNil))) (e2 false ixG (eVar 0) (eVar 3)) [3]))
  (sSeq (sIf (t2 eqG (eVar 1) (eLst false aNil))
  (sRet (eC .non))
  sNil)
  (sSeq (sSet 2 (eCall false minG (aCons (eLc false (iOf (eVar 1)) (gbName 4) tYesD (eCall false lenG (aCons (eVar 4) aNil)) [4]) aNil)))
  (sRet (e2 true addG (e2 false ixG (eLc false (iOf (eVar 1)) (gbName 4) (t2 eqG (eCall false lenG (aCons (eVar 4) aNil)) (eVar 2)) (eVar 4) [4]) (eC (.int 0))) (eLst false (aCons (eC (.str "out")) aNil)))))))
def f_least_way : FM := fnM 4 m_least_way
def N_least_way : List Str := ["ways", "some", "least", "stand", "way"]
theorem sc_least_way : FnScope N_least_way ["ways"] (defScope s_least_way) := ⟨rfl, rfl, rfl, by decide, by decide, by decide, by decide⟩
theorem bd_least_way (kV doc pm : Value) (an : Option Addr) (cdv ct : Value) (us : List Value) (hl : us.length = (["ways"] : List Str).length) : bindArgs (PySem.W.fnOf "least_way" "least_way" (defArgs s_least_way) (defBody s_least_way) (defScope s_least_way) .none kV doc pm an cdv ct) ⟨us, []⟩ = pure ((["ways"] : List Str).zip us) := match us, hl with | [_], _ => rfl
theorem b_least_way (h : Hd K mg) (cdv : Value) (A : Around) (outer : List Env) (s : Shared) (H : Hp) (E : XK) (hr : Room 2 (A.deeper (envOfC "least_way" (defScope s_least_way) s.heap.objs.size (He.ga K "least_way") cdv))) : ESs (cxOf (L2.CX P w) P w K mg base N_least_way "least_way" (defScope s_least_way) (He.ga K "least_way") cdv A outer s H E) (WD E) (defBody s_least_way) m_least_way := by
      have hN : N_least_way.Nodup := by decide
      have hu := units_of hr
      have hp := passes_of (X := cxOf (L2.CX P w) P w K mg base N_least_way "least_way" (defScope s_least_way) (He.ga K "least_way") cdv A outer s H E) rfl
      have tk : Takes (cxOf (L2.CX P w) P w K mg base N_least_way "least_way" (defScope s_least_way) (He.ga K "least_way") cdv A outer s H E) (WD E) := takes_of rfl rfl rfl rfl
      have hc : (cxOf (L2.CX P w) P w K mg base N_least_way "least_way" (defScope s_least_way) (He.ga K "least_way") cdv A outer s H E).calm = true := rfl
      exact (ess_cons (es_setLc 1 false rfl hN [("stand", 3)] (ei_of (ee_callB false (cb_sortA rfl hu) (ea_cons (ee_var 0) ea_nil) h.f_sorted bb_sorted)) (by rfl) (fun _ _ _ _ _ => (eg_name 3 hN)) (fun _ _ _ _ _ => (ets_one (et_of (ec_callP takes0 (ok_is_last h) (hr.mono (by decide)) h.g_is_last h.k_is_last (ea_cons (ee_var 3) ea_nil))))) (fun _ _ _ _ _ => (ee_sub hu (ee_var 0) (ee_var 3))))
  (ess_cons (es_if (et_cmp (op_eqDD hu) (ee_var 1) (ee_lst false ea_nil))
  (ess_one (es_ret ee_non))
  ess_nil)
  (ess_cons (es_set 2 hN (ee_callB false (cb_min rfl) (ea_cons (ee_lc false rfl hN [("way", 4)] (ei_of (ee_var 1)) (by rfl) (fun _ _ _ _ _ => (eg_name 4 hN)) (fun _ _ _ _ _ => ets_nil) (fun _ _ _ _ _ => (ee_callB false cb_len (ea_cons (ee_var 4) ea_nil) h.f_len bb_len))) ea_nil) h.f_min bb_min))
  (ess_one (es_ret (ee_op op_addD true (ee_sub hu (ee_lc false rfl hN [("way", 4)] (ei_of (ee_var 1)) (by rfl) (fun _ _ _ _ _ => (eg_name 4 hN)) (fun _ _ _ _ _ => (ets_one (et_cmp (op_eqDD hu) (ee_callB false cb_len (ea_cons (ee_var 4) ea_nil) h.f_len bb_len) (ee_var 2)))) (fun _ _ _ _ _ => (ee_var 4))) ee_int) (ee_lst false (ea_cons ee_str ea_nil))))))))
theorem ok_least_way (h : Hd K mg) : FOk P w K mg base 3 (He.ga K "least_way") 1 f_least_way :=
  fok_of (N := N_least_way) (ps := ["ways"]) m_least_way h.F_least_way sc_least_way rfl rfl bd_least_way (b_least_way h)
def m_within : SM := (sSeq (sDrop (eCallP 1 f_check_lines (aCons (eVar 0) aNil)))
  (sSeq (sDrop (eCallP 2 f_check_order (aCons (eVar 0) (aCons (eVar 1) aNil))))
  (sSeq (sIf (tNotD (tOf (eCallP 1 f_is_count (aCons (eVar 2) aNil))))
  (sRaise "BadCount")
  sNil)
  (sSeq (sSet 3 (eCallP 2 f_heights_of (aCons (eVar 0) (aCons (eVar 1) aNil))))
  (sSeq (sSet 4 (eCallP 1 f_least_way (aCons (eVar 3) aNil)))
  (sSeq (sIf (tAndD (t2 isNotG (eVar 4) (eC .non)) (t2 leG (eCall false lenG (aCons (eVar 4) aNil)) (eVar 2)))
  (sRet (eMake "Within" 2 f_Within_init (aCons (eVar 4) aNil)))
  sNil)
  (sRet (eMake "Beyond" 2 f_Beyond_init (aCons (eLc false (iOf (eCall false sortA (aCons (eVar 3) aNil))) (gbName 5) tYesD (eTup (aCons (eVar 5) (aCons (eCall false lenG (aCons (e2 false ixG (eVar 3) (eVar 5)) aNil)) aNil))) [5]) aNil)))))))))
def f_within : FM := fnM 3 m_within
def N_within : List Str := ["lines", "order", "many", "ways", "deeds", "stand"]
theorem sc_within : FnScope N_within ["lines", "order", "many"] (defScope s_within) := ⟨rfl, rfl, rfl, by decide, by decide, by decide, by decide⟩
theorem bd_within (kV doc pm : Value) (an : Option Addr) (cdv ct : Value) (us : List Value) (hl : us.length = (["lines", "order", "many"] : List Str).length) : bindArgs (PySem.W.fnOf "within" "within" (defArgs s_within) (defBody s_within) (defScope s_within) .none kV doc pm an cdv ct) ⟨us, []⟩ = pure ((["lines", "order", "many"] : List Str).zip us) := match us, hl with | [_, _, _], _ => rfl
theorem b_within (h : Hd K mg) (cdv : Value) (A : Around) (outer : List Env) (s : Shared) (H : Hp) (E : XK) (hr : Room 4 (A.deeper (envOfC "within" (defScope s_within) s.heap.objs.size (He.ga K "within") cdv))) : ESs (cxOf (L2.CX P w) P w K mg base N_within "within" (defScope s_within) (He.ga K "within") cdv A outer s H E) (WD E) (defBody s_within) m_within := by
      have hN : N_within.Nodup := by decide
      have hu := units_of hr
      have hp := passes_of (X := cxOf (L2.CX P w) P w K mg base N_within "within" (defScope s_within) (He.ga K "within") cdv A outer s H E) rfl
      have tk : Takes (cxOf (L2.CX P w) P w K mg base N_within "within" (defScope s_within) (He.ga K "within") cdv A outer s H E) (WD E) := takes_of rfl rfl rfl rfl
      have hc : (cxOf (L2.CX P w) P w K mg base N_within "within" (defScope s_within) (He.ga K "within") cdv A outer s H E).calm = true := rfl
      exact (ess_cons (es_expr (ec_callP tk (ok_check_lines h) (hr.mono (by decide)) h.g_check_lines h.k_check_lines (ea_cons (ee_var 0) ea_nil)))
  (ess_cons (es_expr (ec_callP tk (ok_check_order h) (hr.mono (by decide)) h.g_check_order h.k_check_order (ea_cons (ee_var 0) (ea_cons (ee_var 1) ea_nil))))
  (ess_cons (es_if (et_not (et_of (ec_callP tk (ok_is_count h) (hr.mono (by decide)) h.g_is_count h.k_is_count (ea_cons (ee_var 2) ea_nil))))
  (ess_one (es_raise rfl tk h.e_BadCount.1 h.g_BadCount h.e_BadCount.2.1 h.e_BadCount.2.2.1 h.e_BadCount.2.2.2))
  ess_nil)
  (ess_cons (es_set 3 hN (ec_callP tk (ok_heights_of h) (hr.mono (by decide)) h.g_heights_of h.k_heights_of (ea_cons (ee_var 0) (ea_cons (ee_var 1) ea_nil))))
  (ess_cons (es_set 4 hN (ec_callP tk (ok_least_way h) (hr.mono (by decide)) h.g_least_way h.k_least_way (ea_cons (ee_var 3) ea_nil)))
  (ess_cons (es_if (et_w (ew_and (et_cmp op_isNotD (ee_var 4) ee_non) (ew_and1 (et_cmp op_leD (ee_callB false cb_len (ea_cons (ee_var 4) ea_nil) h.f_len bb_len) (ee_var 2)))))
  (ess_one (es_ret (ec_make tk h.mk_Within (ok_Within_init h) (hr.mono (by decide)) h.g_Within (ea_cons (ee_var 4) ea_nil))))
  ess_nil)
  (ess_one (es_ret (ec_make tk h.mk_Beyond (ok_Beyond_init h) (hr.mono (by decide)) h.g_Beyond (ea_cons (ee_lc false rfl hN [("stand", 5)] (ei_of (ee_callB false (cb_sortA rfl hu) (ea_cons (ee_var 3) ea_nil) h.f_sorted bb_sorted)) (by rfl) (fun _ _ _ _ _ => (eg_name 5 hN)) (fun _ _ _ _ _ => ets_nil) (fun _ _ _ _ _ => (ee_tup (ea_cons (ee_var 5) (ea_cons (ee_callB false cb_len (ea_cons (ee_sub hu (ee_var 3) (ee_var 5)) ea_nil) h.f_len bb_len) ea_nil))))) ea_nil))))))))))
theorem ok_within (h : Hd K mg) : FOk P w K mg base 5 (He.ga K "within") 3 f_within :=
  fok_of (N := N_within) (ps := ["lines", "order", "many"]) m_within h.F_within sc_within rfl rfl bd_within (b_within h)
def m__law_cell_at : SM := (sSeq (sIf (t2 ltG (eVar 1) (eCall false lenG (aCons (eVar 0) aNil)))
  (sRet (e2 false ixG (eVar 0) (eVar 1)))
  sNil)
  (sRet (eC (.int 0))))
def f__law_cell_at : FM := fnM 0 m__law_cell_at
def N__law_cell_at : List Str := ["_law_script", "_law_k"]
theorem sc__law_cell_at : FnScope N__law_cell_at ["_law_script", "_law_k"] (defScope s__law_cell_at) := ⟨rfl, rfl, rfl, by decide, by decide, by decide, by decide⟩
theorem bd__law_cell_at (kV doc pm : Value) (an : Option Addr) (cdv ct : Value) (us : List Value) (hl : us.length = (["_law_script", "_law_k"] : List Str).length) : bindArgs (PySem.W.fnOf "_law_cell_at" "_law_cell_at" (defArgs s__law_cell_at) (defBody s__law_cell_at) (defScope s__law_cell_at) .none kV doc pm an cdv ct) ⟨us, []⟩ = pure ((["_law_script", "_law_k"] : List Str).zip us) := match us, hl with | [_, _], _ => rfl
theorem b__law_cell_at (h : Hd K mg) (cdv : Value) (A : Around) (outer : List Env) (s : Shared) (H : Hp) (E : XK) (hr : Room 0 (A.deeper (envOfC "_law_cell_at" (defScope s__law_cell_at) s.heap.objs.size (He.ga K "_law_cell_at") cdv))) : ESs (cxOf (L2.CX P w) P w K mg base N__law_cell_at "_law_cell_at" (defScope s__law_cell_at) (He.ga K "_law_cell_at") cdv A outer s H E) (WD E) (defBody s__law_cell_at) m__law_cell_at := by
      have hN : N__law_cell_at.Nodup := by decide
      have hu := units_of hr
      have hp := passes_of (X := cxOf (L2.CX P w) P w K mg base N__law_cell_at "_law_cell_at" (defScope s__law_cell_at) (He.ga K "_law_cell_at") cdv A outer s H E) rfl
      have tk : Takes (cxOf (L2.CX P w) P w K mg base N__law_cell_at "_law_cell_at" (defScope s__law_cell_at) (He.ga K "_law_cell_at") cdv A outer s H E) (WD E) := takes_of rfl rfl rfl rfl
      have hc : (cxOf (L2.CX P w) P w K mg base N__law_cell_at "_law_cell_at" (defScope s__law_cell_at) (He.ga K "_law_cell_at") cdv A outer s H E).calm = true := rfl
      exact (ess_cons (es_if (et_cmp (op_ltD hu) (ee_var 1) (ee_callB false cb_len (ea_cons (ee_var 0) ea_nil) h.f_len bb_len))
  (ess_one (es_ret (ee_sub hu (ee_var 0) (ee_var 1))))
  ess_nil)
  (ess_one (es_ret ee_int)))
theorem ok__law_cell_at (h : Hd K mg) : FOk P w K mg base 1 (He.ga K "_law_cell_at") 2 f__law_cell_at :=
  fok_of (N := N__law_cell_at) (ps := ["_law_script", "_law_k"]) m__law_cell_at h.F__law_cell_at sc__law_cell_at rfl rfl bd__law_cell_at (b__law_cell_at h)
def m__law_draw : SM := (sSeq (sSet 3 (eTup (aCons (eC (.int 1000003)) (aCons (eC (.int 1000033)) (aCons (eC (.int 1000037)) (aCons (eC (.int 1000039)) (aCons (eC (.int 1000081)) (aCons (eC (.int 1000099)) (aCons (eC (.int 1000117)) (aCons (eC (.int 1000121)) (aCons (eC (.int 1000133)) (aCons (eC (.int 1000151)) (aCons (eC (.int 1000159)) (aCons (eC (.int 1000171)) (aCons (eC (.int 1000183)) (aCons (eC (.int 1000187)) (aCons (eC (.int 1000193)) (aCons (eC (.int 1000199)) aNil))))))))))))))))))
  (sRet (e2 true modG (e2 false modG (e2 false addG (e2 false mulG (eVar 0) (eC (.int 48271))) (e2 false mulG (eVar 1) (eC (.int 69621)))) (e2 false ixG (eVar 3) (e2 false modG (eVar 1) (eC (.int 16))))) (eVar 2))))
def f__law_draw : FM := fnM 1 m__law_draw
def N__law_draw : List Str := ["_law_cell", "_law_k", "_law_most", "_law_primes"]
theorem sc__law_draw : FnScope N__law_draw ["_law_cell", "_law_k", "_law_most"] (defScope s__law_draw) := ⟨rfl, rfl, rfl, by decide, by decide, by decide, by decide⟩
theorem bd__law_draw (kV doc pm : Value) (an : Option Addr) (cdv ct : Value) (us : List Value) (hl : us.length = (["_law_cell", "_law_k", "_law_most"] : List Str).length) : bindArgs (PySem.W.fnOf "_law_draw" "_law_draw" (defArgs s__law_draw) (defBody s__law_draw) (defScope s__law_draw) .none kV doc pm an cdv ct) ⟨us, []⟩ = pure ((["_law_cell", "_law_k", "_law_most"] : List Str).zip us) := match us, hl with | [_, _, _], _ => rfl
theorem b__law_draw (h : Hd K mg) (cdv : Value) (A : Around) (outer : List Env) (s : Shared) (H : Hp) (E : XK) (hr : Room 0 (A.deeper (envOfC "_law_draw" (defScope s__law_draw) s.heap.objs.size (He.ga K "_law_draw") cdv))) : ESs (cxOf (L2.CX P w) P w K mg base N__law_draw "_law_draw" (defScope s__law_draw) (He.ga K "_law_draw") cdv A outer s H E) (WD E) (defBody s__law_draw) m__law_draw := by
      have hN : N__law_draw.Nodup := by decide
      have hu := units_of hr
      have hp := passes_of (X := cxOf (L2.CX P w) P w K mg base N__law_draw "_law_draw" (defScope s__law_draw) (He.ga K "_law_draw") cdv A outer s H E) rfl
      have tk : Takes (cxOf (L2.CX P w) P w K mg base N__law_draw "_law_draw" (defScope s__law_draw) (He.ga K "_law_draw") cdv A outer s H E) (WD E) := takes_of rfl rfl rfl rfl
      have hc : (cxOf (L2.CX P w) P w K mg base N__law_draw "_law_draw" (defScope s__law_draw) (He.ga K "_law_draw") cdv A outer s H E).calm = true := rfl
      exact (ess_cons (es_set 3 hN (ee_tup (ea_cons ee_int (ea_cons ee_int (ea_cons ee_int (ea_cons ee_int (ea_cons ee_int (ea_cons ee_int (ea_cons ee_int (ea_cons ee_int (ea_cons ee_int (ea_cons ee_int (ea_cons ee_int (ea_cons ee_int (ea_cons ee_int (ea_cons ee_int (ea_cons ee_int (ea_cons ee_int ea_nil))))))))))))))))))
  (ess_one (es_ret (ee_op op_modD true (ee_op op_modD false (ee_op op_addD false (ee_op op_mulD false (ee_var 0) ee_int) (ee_op op_mulD false (ee_var 1) ee_int)) (ee_sub hu (ee_var 3) (ee_op op_modD false (ee_var 1) ee_int))) (ee_var 2)))))
theorem ok__law_draw (h : Hd K mg) : FOk P w K mg base 1 (He.ga K "_law_draw") 3 f__law_draw :=
  fok_of (N := N__law_draw) (ps := ["_law_cell", "_law_k", "_law_most"]) m__law_draw h.F__law_draw sc__law_draw rfl rfl bd__law_draw (b__law_draw h)
def m__law_number : SM := (sSeq (sIf (t2 geG (eVar 0) (e2 false powG (eC (.int 10)) (eC (.int 18))))
  (sRet (e2 true modG (e2 false fdivG (e2 false subG (eVar 0) (e2 false powG (eC (.int 10)) (eC (.int 18)))) (e2 false ixG (eTup (aCons (eC (.int 1)) (aCons (eC (.int 7)) (aCons (eC (.int 49)) (aCons (eC (.int 343)) (aCons (eC (.int 2401)) aNil)))))) (e2 false modG (eVar 1) (eC (.int 5))))) (eVar 2)))
  sNil)
  (sSeq (sSet 3 (e2 false modG (eVar 0) (eC (.int 1000003))))
  (sRet (e2 true modG (eCallP 3 f__law_draw (aCons (e2 false mulG (e2 false addG (eVar 3) (e2 false mulG (eC (.int 977)) (eVar 1))) (e2 false addG (e2 false addG (eVar 3) (e2 false mulG (eC (.int 31)) (eVar 1))) (eC (.int 5)))) (aCons (e2 false addG (e2 false modG (eVar 1) (eC (.int 9))) (eC (.int 1))) (aCons (eC (.int 999983)) aNil)))) (eVar 2)))))
def f__law_number : FM := fnM 1 m__law_number
def N__law_number : List Str := ["_law_cell", "_law_k", "_law_limit", "_law_small"]
theorem sc__law_number : FnScope N__law_number ["_law_cell", "_law_k", "_law_limit"] (defScope s__law_number) := ⟨rfl, rfl, rfl, by decide, by decide, by decide, by decide⟩
theorem bd__law_number (kV doc pm : Value) (an : Option Addr) (cdv ct : Value) (us : List Value) (hl : us.length = (["_law_cell", "_law_k", "_law_limit"] : List Str).length) : bindArgs (PySem.W.fnOf "_law_number" "_law_number" (defArgs s__law_number) (defBody s__law_number) (defScope s__law_number) .none kV doc pm an cdv ct) ⟨us, []⟩ = pure ((["_law_cell", "_law_k", "_law_limit"] : List Str).zip us) := match us, hl with | [_, _, _], _ => rfl
theorem b__law_number (h : Hd K mg) (cdv : Value) (A : Around) (outer : List Env) (s : Shared) (H : Hp) (E : XK) (hr : Room 1 (A.deeper (envOfC "_law_number" (defScope s__law_number) s.heap.objs.size (He.ga K "_law_number") cdv))) : ESs (cxOf (L2.CX P w) P w K mg base N__law_number "_law_number" (defScope s__law_number) (He.ga K "_law_number") cdv A outer s H E) (WD E) (defBody s__law_number) m__law_number := by
      have hN : N__law_number.Nodup := by decide
      have hu := units_of hr
      have hp := passes_of (X := cxOf (L2.CX P w) P w K mg base N__law_number "_law_number" (defScope s__law_number) (He.ga K "_law_number") cdv A outer s H E) rfl
      have tk : Takes (cxOf (L2.CX P w) P w K mg base N__law_number "_law_number" (defScope s__law_number) (He.ga K "_law_number") cdv A outer s H E) (WD E) := takes_of rfl rfl rfl rfl
      have hc : (cxOf (L2.CX P w) P w K mg base N__law_number "_law_number" (defScope s__law_number) (He.ga K "_law_number") cdv A outer s H E).calm = true := rfl
      exact (ess_cons (es_if (et_cmp op_geD (ee_var 0) (ee_op op_powD false ee_int ee_int))
  (ess_one (es_ret (ee_op op_modD true (ee_op op_fdivD false (ee_op op_subD false (ee_var 0) (ee_op op_powD false ee_int ee_int)) (ee_sub hu (ee_tup (ea_cons ee_int (ea_cons ee_int (ea_cons ee_int (ea_cons ee_int (ea_cons ee_int ea_nil)))))) (ee_op op_modD false (ee_var 1) ee_int))) (ee_var 2))))
  ess_nil)
  (ess_cons (es_set 3 hN (ee_op op_modD false (ee_var 0) ee_int))
  (ess_one (es_ret (ee_op op_modD true (ec_callP tk (ok__law_draw h) (hr.mono (by decide)) h.g__law_draw h.k__law_draw (ea_cons (ee_op op_mulD false (ee_op op_addD false (ee_var 3) (ee_op op_mulD false ee_int (ee_var 1))) (ee_op op_addD false (ee_op op_addD false (ee_var 3) (ee_op op_mulD false ee_int (ee_var 1))) ee_int)) (ea_cons (ee_op op_addD false (ee_op op_modD false (ee_var 1) ee_int) ee_int) (ea_cons ee_int ea_nil)))) (ee_var 2))))))
theorem ok__law_number (h : Hd K mg) : FOk P w K mg base 2 (He.ga K "_law_number") 3 f__law_number :=
  fok_of (N := N__law_number) (ps := ["_law_cell", "_law_k", "_law_limit"]) m__law_number h.F__law_number sc__law_number rfl rfl bd__law_number (b__law_number h)
def m__law_yard : SM := (sSeq (sSet 3 (eCallP 2 f__law_cell_at (aCons (eVar 0) (aCons (eVar 1) aNil))))
  (sSeq (sPar [4, 5] (aCons (eCallP 3 f__law_number (aCons (eVar 3) (aCons (e2 false addG (eVar 1) (eC (.int 1))) (aCons (eC (.int 5)) aNil)))) (aCons (e2 false addG (eC (.int 1)) (eCallP 3 f__law_number (aCons (eVar 3) (aCons (e2 false addG (eVar 1) (eC (.int 2))) (aCons (eC (.int 6)) aNil))))) aNil)))
  (sSeq (sSet 6 (e2 false ixG (eLst false (aCons (eLst false (aCons (eC (.int 2)) (aCons (eC (.int 2)) aNil))) (aCons (eLst false (aCons (eC (.int 1)) (aCons (eC (.int 2)) aNil))) (aCons (eLst false (aCons (eC (.int 2)) (aCons (eC (.int 1)) aNil))) (aCons (eLst false (aCons (eC (.int 1)) (aCons (eC (.int 1)) aNil))) (aCons (eLst false (aCons (eC (.int 2)) (aCons (eC (.int 2)) aNil))) aNil)))))) (eVar 4)))
  (sSeq (sIf (tOf (eVar 2))
  (sSet 6 (e2 false ixG (eLst false (aCons (eLst false (aCons (eC (.int 2)) (aCons (eC (.int 1)) (aCons (eC (.int 1)) aNil)))) (aCons (eLst false (aCons (eC (.int 1)) (aCons (eC (.int 2)) (aCons (eC (.int 1)) aNil)))) (aCons (eLst false (aCons (eC (.int 1)) (aCons (eC (.int 1)) (aCons (eC (.int 2)) aNil)))) (aCons (eLst false (aCons (eC (.int 1)) (aCons (eC (.int 1)) (aCons (eC (.int 1)) aNil)))) (aCons (eLst false (aCons (eC (.int 2)) (aCons (eC (.int 1)) (aCons (eC (.int 1)) aNil)))) aNil)))))) (eVar 4)))
  sNil)
  (sSeq (sSet 5 (eCall false minG (aCons (eCall false sumG (aCons (eVar 6) aNil)) (aCons (eVar 5) (aCons (eC (.int 3)) aNil)))))
  (sSeq (sSet 7 (eLisRng false (eVar 5)))
  (sSeq (sPar [8, 9] (aCons (eCallP 3 f__law_number (aCons (eVar 3) (aCons (e2 false addG (eVar 1) (eC (.int 3))) (aCons (eC (.int 6)) aNil)))) (aCons (eLc true (iOf (eVar 6)) (gbName 13) tYesD (eTup aNil) [13]) aNil)))
  (sSeq (sSet 7 (e2 false addG (eSl false (eVar 7) (oSome (e2 false modG (eVar 8) (eVar 5))) oNone) (eSl false (eVar 7) oNone (oSome (e2 false modG (eVar 8) (eVar 5))))))
  (sSeq (sIf (t2 gtG (eVar 8) (eC (.int 2)))
  (sSet 7 (e1 false revA (eVar 7)))
  sNil)
  (sSeq (sFor 0 (iEnu (eVar 7)) (gbTup (gbCons (gbName 10) (gbCons (gbName 11) gbNil)))
  (sSeq (sSet 12 (eCallP 3 f__law_number (aCons (eVar 3) (aCons (e2 false addG (e2 false addG (eVar 1) (eVar 10)) (eC (.int 4))) (aCons (eCall false lenG (aCons (eVar 6) aNil)) aNil)))))
  (sSeq (sWhile 4 (t2 eqG (eCall false lenG (aCons (e2 false ixG (eVar 9) (eVar 12)) aNil)) (e2 false ixG (eVar 6) (eVar 12)))
  (sSet 12 (e2 false modG (e2 false addG (eVar 12) (eC (.int 1))) (eCall false lenG (aCons (eVar 6) aNil)))))
  (sPut (e2 false addG (eTup (aCons (eVar 11) aNil)) (e2 false ixG (eVar 9) (eVar 12))) (eVar 9) (eVar 12)))))
  (sRet (eLisZip true (aCons (eVar 6) (aCons (eVar 9) aNil))))))))))))))
def f__law_yard : FM := fnM 11 m__law_yard
def N__law_yard : List Str := ["_law_script", "_law_by", "_law_great", "_law_cell", "_law_kind", "_law_many", "_law_rooms", "_law_names", "_law_turn", "_law_rows", "_law_at", "_law_name", "_law_place", "_law_room"]
theorem sc__law_yard : FnScope N__law_yard ["_law_script", "_law_by", "_law_great"] (defScope s__law_yard) := ⟨rfl, rfl, rfl, by decide, by decide, by decide, by decide⟩
theorem bd__law_yard (kV doc pm : Value) (an : Option Addr) (cdv ct : Value) (us : List Value) (hl : us.length = (["_law_script", "_law_by", "_law_great"] : List Str).length) : bindArgs (PySem.W.fnOf "_law_yard" "_law_yard" (defArgs s__law_yard) (defBody s__law_yard) (defScope s__law_yard) .none kV doc pm an cdv ct) ⟨us, []⟩ = pure ((["_law_script", "_law_by", "_law_great"] : List Str).zip us) := match us, hl with | [_, _, _], _ => rfl
theorem b__law_yard (h : Hd K mg) (cdv : Value) (A : Around) (outer : List Env) (s : Shared) (H : Hp) (E : XK) (hr : Room 2 (A.deeper (envOfC "_law_yard" (defScope s__law_yard) s.heap.objs.size (He.ga K "_law_yard") cdv))) : ESs (cxOf (L2.CX P w) P w K mg base N__law_yard "_law_yard" (defScope s__law_yard) (He.ga K "_law_yard") cdv A outer s H E) (WD E) (defBody s__law_yard) m__law_yard := by
      have hN : N__law_yard.Nodup := by decide
      have hu := units_of hr
      have hp := passes_of (X := cxOf (L2.CX P w) P w K mg base N__law_yard "_law_yard" (defScope s__law_yard) (He.ga K "_law_yard") cdv A outer s H E) rfl
      have tk : Takes (cxOf (L2.CX P w) P w K mg base N__law_yard "_law_yard" (defScope s__law_yard) (He.ga K "_law_yard") cdv A outer s H E) (WD E) := takes_of rfl rfl rfl rfl
      have hc : (cxOf (L2.CX P w) P w K mg base N__law_yard "_law_yard" (defScope s__law_yard) (He.ga K "_law_yard") cdv A outer s H E).calm = true := rfl
      exact (ess_cons (es_set 3 hN (ec_callP tk (ok__law_cell_at h) (hr.mono (by decide)) h.g__law_cell_at h.k__law_cell_at (ea_cons (ee_var 0) (ea_cons (ee_var 1) ea_nil))))
  (ess_cons (es_par (i := 4) (j := 5) rfl hN (ea_cons (ec_callP tk (ok__law_number h) (hr.mono (by decide)) h.g__law_number h.k__law_number (ea_cons (ee_var 3) (ea_cons (ee_op op_addD false (ee_var 1) ee_int) (ea_cons ee_int ea_nil)))) (ea_cons (ee_op op_addD false ee_int (ec_callP tk (ok__law_number h) (hr.mono (by decide)) h.g__law_number h.k__law_number (ea_cons (ee_var 3) (ea_cons (ee_op op_addD false (ee_var 1) ee_int) (ea_cons ee_int ea_nil))))) ea_nil)))
  (ess_cons (es_set 6 hN (ee_sub hu (ee_lst false (ea_cons (ee_lst false (ea_cons ee_int (ea_cons ee_int ea_nil))) (ea_cons (ee_lst false (ea_cons ee_int (ea_cons ee_int ea_nil))) (ea_cons (ee_lst false (ea_cons ee_int (ea_cons ee_int ea_nil))) (ea_cons (ee_lst false (ea_cons ee_int (ea_cons ee_int ea_nil))) (ea_cons (ee_lst false (ea_cons ee_int (ea_cons ee_int ea_nil))) ea_nil)))))) (ee_var 4)))
  (ess_cons (es_if (et_of (ee_var 2))
  (ess_one (es_set 6 hN (ee_sub hu (ee_lst false (ea_cons (ee_lst false (ea_cons ee_int (ea_cons ee_int (ea_cons ee_int ea_nil)))) (ea_cons (ee_lst false (ea_cons ee_int (ea_cons ee_int (ea_cons ee_int ea_nil)))) (ea_cons (ee_lst false (ea_cons ee_int (ea_cons ee_int (ea_cons ee_int ea_nil)))) (ea_cons (ee_lst false (ea_cons ee_int (ea_cons ee_int (ea_cons ee_int ea_nil)))) (ea_cons (ee_lst false (ea_cons ee_int (ea_cons ee_int (ea_cons ee_int ea_nil)))) ea_nil)))))) (ee_var 4))))
  ess_nil)
  (ess_cons (es_set 5 hN (ee_callB false (cb_min rfl) (ea_cons (ee_callB false (cb_sum rfl) (ea_cons (ee_var 6) ea_nil) h.f_sum bb_sum) (ea_cons (ee_var 5) (ea_cons ee_int ea_nil))) h.f_min bb_min))
  (ess_cons (es_set 7 hN (ee_lisRng false rfl (ee_var 5) h.f_list h.f_range))
  (ess_cons (es_par (i := 8) (j := 9) rfl hN (ea_cons (ec_callP tk (ok__law_number h) (hr.mono (by decide)) h.g__law_number h.k__law_number (ea_cons (ee_var 3) (ea_cons (ee_op op_addD false (ee_var 1) ee_int) (ea_cons ee_int ea_nil)))) (ea_cons (ee_lc true rfl hN [("_law_room", 13)] (ei_of (ee_var 6)) (by rfl) (fun _ _ _ _ _ => (eg_name 13 hN)) (fun _ _ _ _ _ => ets_nil) (fun _ _ _ _ _ => (ee_tup ea_nil))) ea_nil)))
  (ess_cons (es_set 7 hN (ee_op op_addD false (ee_sl false (ee_var 7) (eo_some (ee_op op_modD false (ee_var 8) (ee_var 5))) eo_none) (ee_sl false (ee_var 7) eo_none (eo_some (ee_op op_modD false (ee_var 8) (ee_var 5))))))
  (ess_cons (es_if (et_cmp op_gtD (ee_var 8) ee_int)
  (ess_one (es_set 7 hN (ee_revA false (ee_var 7))))
  ess_nil)
  (ess_cons (es_for 0 hp rfl (ei_enu (ee_var 7) h.f_enumerate) (eg_tup rfl (egs_cons (eg_name 10 hN) (egs_cons (eg_name 11 hN) egs_nil)))
  (ess_cons (es_set 12 hN (ec_callP tk (ok__law_number h) (hr.mono (by decide)) h.g__law_number h.k__law_number (ea_cons (ee_var 3) (ea_cons (ee_op op_addD false (ee_op op_addD false (ee_var 1) (ee_var 10)) ee_int) (ea_cons (ee_callB false cb_len (ea_cons (ee_var 6) ea_nil) h.f_len bb_len) ea_nil)))))
  (ess_cons (es_while 4 hp (et_cmp (op_eqDD hu) (ee_callB false cb_len (ea_cons (ee_sub hu (ee_var 9) (ee_var 12)) ea_nil) h.f_len bb_len) (ee_sub hu (ee_var 6) (ee_var 12)))
  (ess_one (es_set 12 hN (ee_op op_modD false (ee_op op_addD false (ee_var 12) ee_int) (ee_callB false cb_len (ea_cons (ee_var 6) ea_nil) h.f_len bb_len)))))
  (ess_one (es_put hu (ee_op op_addD false (ee_tup (ea_cons (ee_var 11) ea_nil)) (ee_sub hu (ee_var 9) (ee_var 12))) (ee_var 9) (ee_var 12))))))
  (ess_one (es_ret (ee_lisZip true rfl (ea_cons (ee_var 6) (ea_cons (ee_var 9) ea_nil)) h.f_list h.f_zip)))))))))))))
theorem ok__law_yard (h : Hd K mg) : FOk P w K mg base 3 (He.ga K "_law_yard") 3 f__law_yard :=
  fok_of (N := N__law_yard) (ps := ["_law_script", "_law_by", "_law_great"]) m__law_yard h.F__law_yard sc__law_yard rfl rfl bd__law_yard (b__law_yard h)
def m__law_order : SM := (sSeq (sSet 3 (eLisRng false (eCall false sumG (aCons (eLc false (iOf (eVar 2)) (gbTup (gbCons (gbName 5) (gbCons (gbName 6) gbNil))) tYesD (eCall false lenG (aCons (eVar 6) aNil)) [5, 6]) aNil))))
  (sSeq (sSet 4 (eCallP 3 f__law_number (aCons (eCallP 2 f__law_cell_at (aCons (eVar 0) (aCons (eVar 1) aNil))) (aCons (e2 false addG (eVar 1) (eC (.int 8))) (aCons (eC (.int 6)) aNil)))))
  (sSeq (sSet 3 (e2 false addG (eSl false (eVar 3) (oSome (e2 false modG (eVar 4) (eCall false lenG (aCons (eVar 3) aNil)))) oNone) (eSl false (eVar 3) oNone (oSome (e2 false modG (eVar 4) (eCall false lenG (aCons (eVar 3) aNil)))))))
  (sRet (eIf (t2 gtG (eVar 4) (eC (.int 2))) (e1 true revA (eVar 3)) (eVar 3))))))
def f__law_order : FM := fnM 4 m__law_order
def N__law_order : List Str := ["_law_script", "_law_by", "_law_lines", "_law_names", "_law_turn", "_law_room", "_law_row"]
theorem sc__law_order : FnScope N__law_order ["_law_script", "_law_by", "_law_lines"] (defScope s__law_order) := ⟨rfl, rfl, rfl, by decide, by decide, by decide, by decide⟩
theorem bd__law_order (kV doc pm : Value) (an : Option Addr) (cdv ct : Value) (us : List Value) (hl : us.length = (["_law_script", "_law_by", "_law_lines"] : List Str).length) : bindArgs (PySem.W.fnOf "_law_order" "_law_order" (defArgs s__law_order) (defBody s__law_order) (defScope s__law_order) .none kV doc pm an cdv ct) ⟨us, []⟩ = pure ((["_law_script", "_law_by", "_law_lines"] : List Str).zip us) := match us, hl with | [_, _, _], _ => rfl
theorem b__law_order (h : Hd K mg) (cdv : Value) (A : Around) (outer : List Env) (s : Shared) (H : Hp) (E : XK) (hr : Room 2 (A.deeper (envOfC "_law_order" (defScope s__law_order) s.heap.objs.size (He.ga K "_law_order") cdv))) : ESs (cxOf (L2.CX P w) P w K mg base N__law_order "_law_order" (defScope s__law_order) (He.ga K "_law_order") cdv A outer s H E) (WD E) (defBody s__law_order) m__law_order := by
      have hN : N__law_order.Nodup := by decide
      have hu := units_of hr
      have hp := passes_of (X := cxOf (L2.CX P w) P w K mg base N__law_order "_law_order" (defScope s__law_order) (He.ga K "_law_order") cdv A outer s H E) rfl
      have tk : Takes (cxOf (L2.CX P w) P w K mg base N__law_order "_law_order" (defScope s__law_order) (He.ga K "_law_order") cdv A outer s H E) (WD E) := takes_of rfl rfl rfl rfl
      have hc : (cxOf (L2.CX P w) P w K mg base N__law_order "_law_order" (defScope s__law_order) (He.ga K "_law_order") cdv A outer s H E).calm = true := rfl
      exact (ess_cons (es_set 3 hN (ee_lisRng false rfl (ee_callB false (cb_sum rfl) (ea_cons (ee_lc false rfl hN [("_law_room", 5), ("_law_row", 6)] (ei_of (ee_var 2)) (by rfl) (fun _ _ _ _ _ => (eg_tup rfl (egs_cons (eg_name 5 hN) (egs_cons (eg_name 6 hN) egs_nil)))) (fun _ _ _ _ _ => ets_nil) (fun _ _ _ _ _ => (ee_callB false cb_len (ea_cons (ee_var 6) ea_nil) h.f_len bb_len))) ea_nil) h.f_sum bb_sum) h.f_list h.f_range))
  (ess_cons (es_set 4 hN (ec_callP tk (ok__law_number h) (hr.mono (by decide)) h.g__law_number h.k__law_number (ea_cons (ec_callP tk (ok__law_cell_at h) (hr.mono (by decide)) h.g__law_cell_at h.k__law_cell_at (ea_cons (ee_var 0) (ea_cons (ee_var 1) ea_nil))) (ea_cons (ee_op op_addD false (ee_var 1) ee_int) (ea_cons ee_int ea_nil)))))
  (ess_cons (es_set 3 hN (ee_op op_addD false (ee_sl false (ee_var 3) (eo_some (ee_op op_modD false (ee_var 4) (ee_callB false cb_len (ea_cons (ee_var 3) ea_nil) h.f_len bb_len))) eo_none) (ee_sl false (ee_var 3) eo_none (eo_some (ee_op op_modD false (ee_var 4) (ee_callB false cb_len (ea_cons (ee_var 3) ea_nil) h.f_len bb_len))))))
  (ess_one (es_ret (ee_if (et_cmp op_gtD (ee_var 4) ee_int) (ee_revA true (ee_var 3)) (ee_var 3)))))))
theorem ok__law_order (h : Hd K mg) : FOk P w K mg base 3 (He.ga K "_law_order") 3 f__law_order :=
  fok_of (N := N__law_order) (ps := ["_law_script", "_law_by", "_law_lines"]) m__law_order h.F__law_order sc__law_order rfl rfl bd__law_order (b__law_order h)
def m__law_behind : SM := (sSeq (sPar [3, 4, 5] (aCons (eCall true lisG (aCons (e2 false ixG (eVar 1) (eC (.int 0))) aNil)) (aCons (e2 false ixG (eVar 1) (eC (.int 1))) (aCons (e2 false ixG (eVar 1) (eC (.int 2))) aNil))))
  (sSeq (sIf (t2 inG (eVar 2) (eTup (aCons (eC (.str "left")) (aCons (eC (.str "right")) aNil))))
  (sSet 4 (e2 true modG (e2 false addG (eVar 4) (eIf (t2 eqG (eVar 2) (eC (.str "right"))) (eC (.int 1)) (e2 false subG (eCall false lenG (aCons (eVar 0) aNil)) (eC (.int 1))))) (eCall false lenG (aCons (eVar 0) aNil))))
  (sIf (tAndD (t2 eqG (eVar 2) (eC (.str "take"))) (tAndD (t2 eqG (eVar 5) (e1 false negG (eC (.int 1)))) (t2 neG (e2 false ixG (eVar 3) (eVar 4)) (eTup aNil))))
  (sSeq (sSet 5 (e2 false ixG (e2 false ixG (eVar 3) (eVar 4)) (eC (.int 0))))
  (sPut (eSl false (e2 false ixG (eVar 3) (eVar 4)) (oSome (eC (.int 1))) oNone) (eVar 3) (eVar 4)))
  (sIf (tAndD (t2 eqG (eVar 2) (eC (.str "put"))) (tAndD (t2 neG (eVar 5) (e1 false negG (eC (.int 1)))) (t2 ltG (eCall false lenG (aCons (e2 false ixG (eVar 3) (eVar 4)) aNil)) (e2 false ixG (e2 false ixG (eVar 0) (eVar 4)) (eC (.int 0))))))
  (sSeq (sPut (e2 false addG (eTup (aCons (eVar 5) aNil)) (e2 false ixG (eVar 3) (eVar 4))) (eVar 3) (eVar 4))
  (sSet 5 (e1 false negG (eC (.int 1)))))
  (sIf (tAndD (t2 eqG (eVar 2) (eC (.str "out"))) (tAndD (t2 neG (eVar 5) (e1 false negG (eC (.int 1)))) (t2 eqG (eVar 4) (eC (.int 0)))))
  (sSet 5 (e1 false negG (eC (.int 1))))
  (sRet (eC .non))))))
  (sRet (eTup (aCons (eCall true tupG (aCons (eVar 3) aNil)) (aCons (eVar 4) (aCons (eVar 5) aNil)))))))
def f__law_behind : FM := fnM 3 m__law_behind
def N__law_behind : List Str := ["_law_lines", "_law_stand", "_law_deed", "_law_rows", "_law_place", "_law_engine"]
theorem sc__law_behind : FnScope N__law_behind ["_law_lines", "_law_stand", "_law_deed"] (defScope s__law_behind) := ⟨rfl, rfl, rfl, by decide, by decide, by decide, by decide⟩
theorem bd__law_behind (kV doc pm : Value) (an : Option Addr) (cdv ct : Value) (us : List Value) (hl : us.length = (["_law_lines", "_law_stand", "_law_deed"] : List Str).length) : bindArgs (PySem.W.fnOf "_law_behind" "_law_behind" (defArgs s__law_behind) (defBody s__law_behind) (defScope s__law_behind) .none kV doc pm an cdv ct) ⟨us, []⟩ = pure ((["_law_lines", "_law_stand", "_law_deed"] : List Str).zip us) := match us, hl with | [_, _, _], _ => rfl
theorem b__law_behind (h : Hd K mg) (cdv : Value) (A : Around) (outer : List Env) (s : Shared) (H : Hp) (E : XK) (hr : Room 0 (A.deeper (envOfC "_law_behind" (defScope s__law_behind) s.heap.objs.size (He.ga K "_law_behind") cdv))) : ESs (cxOf (L2.CX P w) P w K mg base N__law_behind "_law_behind" (defScope s__law_behind) (He.ga K "_law_behind") cdv A outer s H E) (WD E) (defBody s__law_behind) m__law_behind := by
      have hN : N__law_behind.Nodup := by decide
      have hu := units_of hr
      have hp := passes_of (X := cxOf (L2.CX P w) P w K mg base N__law_behind "_law_behind" (defScope s__law_behind) (He.ga K "_law_behind") cdv A outer s H E) rfl
      have tk : Takes (cxOf (L2.CX P w) P w K mg base N__law_behind "_law_behind" (defScope s__law_behind) (He.ga K "_law_behind") cdv A outer s H E) (WD E) := takes_of rfl rfl rfl rfl
      have hc : (cxOf (L2.CX P w) P w K mg base N__law_behind "_law_behind" (defScope s__law_behind) (He.ga K "_law_behind") cdv A outer s H E).calm = true := rfl
      exact (ess_cons (es_par3 (i := 3) (j := 4) (l := 5) rfl hN (ea_cons (ee_callTy true cb_list (ea_cons (ee_sub hu (ee_var 1) ee_int) ea_nil) h.f_list bb_list) (ea_cons (ee_sub hu (ee_var 1) ee_int) (ea_cons (ee_sub hu (ee_var 1) ee_int) ea_nil))))
  (ess_cons (es_if (et_cmp (op_inDD hu) (ee_var 2) (ee_tup (ea_cons ee_str (ea_cons ee_str ea_nil))))
  (ess_one (es_set 4 hN (ee_op op_modD true (ee_op op_addD false (ee_var 4) (ee_if (et_cmp (op_eqDD hu) (ee_var 2) ee_str) ee_int (ee_op op_subD false (ee_callB false cb_len (ea_cons (ee_var 0) ea_nil) h.f_len bb_len) ee_int))) (ee_callB false cb_len (ea_cons (ee_var 0) ea_nil) h.f_len bb_len))))
  (ess_one (es_if (et_w (ew_and (et_cmp (op_eqDD hu) (ee_var 2) ee_str) (ew_and (et_cmp (op_eqDD hu) (ee_var 5) (ee_un (un_negD false) ee_int)) (ew_and1 (et_cmp (op_neDD hu) (ee_sub hu (ee_var 3) (ee_var 4)) (ee_tup ea_nil))))))
  (ess_cons (es_set 5 hN (ee_sub hu (ee_sub hu (ee_var 3) (ee_var 4)) ee_int))
  (ess_one (es_put hu (ee_sl false (ee_sub hu (ee_var 3) (ee_var 4)) (eo_some ee_int) eo_none) (ee_var 3) (ee_var 4))))
  (ess_one (es_if (et_w (ew_and (et_cmp (op_eqDD hu) (ee_var 2) ee_str) (ew_and (et_cmp (op_neDD hu) (ee_var 5) (ee_un (un_negD false) ee_int)) (ew_and1 (et_cmp (op_ltD hu) (ee_callB false cb_len (ea_cons (ee_sub hu (ee_var 3) (ee_var 4)) ea_nil) h.f_len bb_len) (ee_sub hu (ee_sub hu (ee_var 0) (ee_var 4)) ee_int))))))
  (ess_cons (es_put hu (ee_op op_addD false (ee_tup (ea_cons (ee_var 5) ea_nil)) (ee_sub hu (ee_var 3) (ee_var 4))) (ee_var 3) (ee_var 4))
  (ess_one (es_set 5 hN (ee_un (un_negD false) ee_int))))
  (ess_one (es_if (et_w (ew_and (et_cmp (op_eqDD hu) (ee_var 2) ee_str) (ew_and (et_cmp (op_neDD hu) (ee_var 5) (ee_un (un_negD false) ee_int)) (ew_and1 (et_cmp (op_eqDD hu) (ee_var 4) ee_int)))))
  (ess_one (es_set 5 hN (ee_un (un_negD false) ee_int)))
  (ess_one (es_ret ee_non)))))))))
  (ess_one (es_ret (ee_tup (ea_cons (ee_callTy true cb_tuple (ea_cons (ee_var 3) ea_nil) h.f_tuple bb_tuple) (ea_cons (ee_var 4) (ea_cons (ee_var 5) ea_nil))))))))
theorem ok__law_behind (h : Hd K mg) : FOk P w K mg base 1 (He.ga K "_law_behind") 3 f__law_behind :=
  fok_of (N := N__law_behind) (ps := ["_law_lines", "_law_stand", "_law_deed"]) m__law_behind h.F__law_behind sc__law_behind rfl rfl bd__law_behind (b__law_behind h)
def m__law_first : SM := (sRet (eTup (aCons (eCall true tupG (aCons (eLc false (iOf (eVar 0)) (gbTup (gbCons (gbName 1) (gbCons (gbName 2) gbNil))) tYesD (eVar 2) [1, 2]) aNil)) (aCons (eC (.int 0)) (aCons (e1 false negG (eC (.int 1))) aNil)))))
def f__law_first : FM := fnM 2 m__law_first
def N__law_first : List Str := ["_law_lines", "_law_room", "_law_row"]
theorem sc__law_first : FnScope N__law_first ["_law_lines"] (defScope s__law_first) := ⟨rfl, rfl, rfl, by decide, by decide, by decide, by decide⟩
theorem bd__law_first (kV doc pm : Value) (an : Option Addr) (cdv ct : Value) (us : List Value) (hl : us.length = (["_law_lines"] : List Str).length) : bindArgs (PySem.W.fnOf "_law_first" "_law_first" (defArgs s__law_first) (defBody s__law_first) (defScope s__law_first) .none kV doc pm an cdv ct) ⟨us, []⟩ = pure ((["_law_lines"] : List Str).zip us) := match us, hl with | [_], _ => rfl
theorem b__law_first (h : Hd K mg) (cdv : Value) (A : Around) (outer : List Env) (s : Shared) (H : Hp) (E : XK) (hr : Room 0 (A.deeper (envOfC "_law_first" (defScope s__law_first) s.heap.objs.size (He.ga K "_law_first") cdv))) : ESs (cxOf (L2.CX P w) P w K mg base N__law_first "_law_first" (defScope s__law_first) (He.ga K "_law_first") cdv A outer s H E) (WD E) (defBody s__law_first) m__law_first := by
      have hN : N__law_first.Nodup := by decide
      have hu := units_of hr
      have hp := passes_of (X := cxOf (L2.CX P w) P w K mg base N__law_first "_law_first" (defScope s__law_first) (He.ga K "_law_first") cdv A outer s H E) rfl
      have tk : Takes (cxOf (L2.CX P w) P w K mg base N__law_first "_law_first" (defScope s__law_first) (He.ga K "_law_first") cdv A outer s H E) (WD E) := takes_of rfl rfl rfl rfl
      have hc : (cxOf (L2.CX P w) P w K mg base N__law_first "_law_first" (defScope s__law_first) (He.ga K "_law_first") cdv A outer s H E).calm = true := rfl
      exact (ess_one (es_ret (ee_tup (ea_cons (ee_callTy true cb_tuple (ea_cons (ee_lc false rfl hN [("_law_room", 1), ("_law_row", 2)] (ei_of (ee_var 0)) (by rfl) (fun _ _ _ _ _ => (eg_tup rfl (egs_cons (eg_name 1 hN) (egs_cons (eg_name 2 hN) egs_nil)))) (fun _ _ _ _ _ => ets_nil) (fun _ _ _ _ _ => (ee_var 2))) ea_nil) h.f_tuple bb_tuple) (ea_cons ee_int (ea_cons (ee_un (un_negD false) ee_int) ea_nil))))))
theorem ok__law_first (h : Hd K mg) : FOk P w K mg base 1 (He.ga K "_law_first") 1 f__law_first :=
  fok_of (N := N__law_first) (ps := ["_law_lines"]) m__law_first h.F__law_first sc__law_first rfl rfl bd__law_first (b__law_first h)
def m__law_gone : SM := (sSeq (sPar [2, 3] (aCons (eCallP 1 f__law_first (aCons (eVar 0) aNil)) (aCons (eLst true aNil) aNil)))
  (sSeq (sFor 0 (iEnu (eVar 1)) (gbTup (gbCons (gbName 4) (gbCons (gbName 5) gbNil)))
  (sSeq (sSet 6 (eCallP 3 f__law_behind (aCons (eVar 0) (aCons (eVar 2) (aCons (eVar 5) aNil)))))
  (sSeq (sIf (t2 isG (eVar 6) (eC .non))
  (sRet (eTup (aCons (eVar 2) (aCons (eVar 3) (aCons (eVar 4) aNil)))))
  sNil)
  (sSeq (sIf (t2 eqG (eVar 5) (eC (.str "out")))
  (sDrop (eMt apG (eVar 3) (e2 false ixG (eVar 2) (eC (.int 2)))))
  sNil)
  (sSet 2 (eVar 6))))))
  (sRet (eTup (aCons (eVar 2) (aCons (eVar 3) (aCons (e1 false negG (eC (.int 1))) aNil)))))))
def f__law_gone : FM := fnM 5 m__law_gone
def N__law_gone : List Str := ["_law_lines", "_law_deeds", "_law_stand", "_law_found", "_law_place", "_law_deed", "_law_other"]
theorem sc__law_gone : FnScope N__law_gone ["_law_lines", "_law_deeds"] (defScope s__law_gone) := ⟨rfl, rfl, rfl, by decide, by decide, by decide, by decide⟩
theorem bd__law_gone (kV doc pm : Value) (an : Option Addr) (cdv ct : Value) (us : List Value) (hl : us.length = (["_law_lines", "_law_deeds"] : List Str).length) : bindArgs (PySem.W.fnOf "_law_gone" "_law_gone" (defArgs s__law_gone) (defBody s__law_gone) (defScope s__law_gone) .none kV doc pm an cdv ct) ⟨us, []⟩ = pure ((["_law_lines", "_law_deeds"] : List Str).zip us) := match us, hl with | [_, _], _ => rfl
theorem b__law_gone (h : Hd K mg) (cdv : Value) (A : Around) (outer : List Env) (s : Shared) (H : Hp) (E : XK) (hr : Room 1 (A.deeper (envOfC "_law_gone" (defScope s__law_gone) s.heap.objs.size (He.ga K "_law_gone") cdv))) : ESs (cxOf (L2.CX P w) P w K mg base N__law_gone "_law_gone" (defScope s__law_gone) (He.ga K "_law_gone") cdv A outer s H E) (WD E) (defBody s__law_gone) m__law_gone := by
      have hN : N__law_gone.Nodup := by decide
      have hu := units_of hr
      have hp := passes_of (X := cxOf (L2.CX P w) P w K mg base N__law_gone "_law_gone" (defScope s__law_gone) (He.ga K "_law_gone") cdv A outer s H E) rfl
      have tk : Takes (cxOf (L2.CX P w) P w K mg base N__law_gone "_law_gone" (defScope s__law_gone) (He.ga K "_law_gone") cdv A outer s H E) (WD E) := takes_of rfl rfl rfl rfl
      have hc : (cxOf (L2.CX P w) P w K mg base N__law_gone "_law_gone" (defScope s__law_gone) (He.ga K "_law_gone") cdv A outer s H E).calm = true := rfl
      exact (ess_cons (es_par (i := 2) (j := 3) rfl hN (ea_cons (ec_callP tk (ok__law_first h) (hr.mono (by decide)) h.g__law_first h.k__law_first (ea_cons (ee_var 0) ea_nil)) (ea_cons (ee_lst true ea_nil) ea_nil)))
  (ess_cons (es_for 0 hp rfl (ei_enu (ee_var 1) h.f_enumerate) (eg_tup rfl (egs_cons (eg_name 4 hN) (egs_cons (eg_name 5 hN) egs_nil)))
  (ess_cons (es_set 6 hN (ec_callP tk (ok__law_behind h) (hr.mono (by decide)) h.g__law_behind h.k__law_behind (ea_cons (ee_var 0) (ea_cons (ee_var 2) (ea_cons (ee_var 5) ea_nil)))))
  (ess_cons (es_if (et_cmp op_isD (ee_var 6) ee_non)
  (ess_one (es_ret (ee_tup (ea_cons (ee_var 2) (ea_cons (ee_var 3) (ea_cons (ee_var 4) ea_nil))))))
  ess_nil)
  (ess_cons (es_if (et_cmp (op_eqDD hu) (ee_var 5) ee_str)
  (ess_one (es_expr (ee_append (ee_var 3) (ee_sub hu (ee_var 2) ee_int))))
  ess_nil)
  (ess_one (es_set 2 hN (ee_var 6)))))))
  (ess_one (es_ret (ee_tup (ea_cons (ee_var 2) (ea_cons (ee_var 3) (ea_cons (ee_un (un_negD false) ee_int) ea_nil))))))))
theorem ok__law_gone (h : Hd K mg) : FOk P w K mg base 2 (He.ga K "_law_gone") 2 f__law_gone :=
  fok_of (N := N__law_gone) (ps := ["_law_lines", "_law_deeds"]) m__law_gone h.F__law_gone sc__law_gone rfl rfl bd__law_gone (b__law_gone h)
def b0__law_there : SM := (sSet 1 (e2 false addG (eVar 1) (eCall false lisG (aCons (eVar 2) aNil))))
def m__law_there : SM := (sSeq (sSet 1 (eIf (t2 neG (e2 false ixG (eVar 0) (eC (.int 2))) (e1 false negG (eC (.int 1)))) (eLst false (aCons (e2 false ixG (eVar 0) (eC (.int 2))) aNil)) (eLst false aNil)))
  (sSeq (sFor 0 (iOf (e2 false ixG (eVar 0) (eC (.int 0)))) (gbName 2)
  b0__law_there)
  (sRet (eCall true sortA (aCons (eVar 1) aNil)))))
def f__law_there : FM := fnM 2 m__law_there
def N__law_there : List Str := ["_law_stand", "_law_found", "_law_row"]
theorem sc__law_there : FnScope N__law_there ["_law_stand"] (defScope s__law_there) := ⟨rfl, rfl, rfl, by decide, by decide, by decide, by decide⟩
theorem bd__law_there (kV doc pm : Value) (an : Option Addr) (cdv ct : Value) (us : List Value) (hl : us.length = (["_law_stand"] : List Str).length) : bindArgs (PySem.W.fnOf "_law_there" "_law_there" (defArgs s__law_there) (defBody s__law_there) (defScope s__law_there) .none kV doc pm an cdv ct) ⟨us, []⟩ = pure ((["_law_stand"] : List Str).zip us) := match us, hl with | [_], _ => rfl
theorem b__law_there (h : Hd K mg) (cdv : Value) (A : Around) (outer : List Env) (s : Shared) (H : Hp) (E : XK) (hr : Room 0 (A.deeper (envOfC "_law_there" (defScope s__law_there) s.heap.objs.size (He.ga K "_law_there") cdv))) : ESs (cxOf (L2.CX P w) P w K mg base N__law_there "_law_there" (defScope s__law_there) (He.ga K "_law_there") cdv A outer s H E) (WD E) (defBody s__law_there) m__law_there := by
      have hN : N__law_there.Nodup := by decide
      have hu := units_of hr
      have hp := passes_of (X := cxOf (L2.CX P w) P w K mg base N__law_there "_law_there" (defScope s__law_there) (He.ga K "_law_there") cdv A outer s H E) rfl
      have tk : Takes (cxOf (L2.CX P w) P w K mg base N__law_there "_law_there" (defScope s__law_there) (He.ga K "_law_there") cdv A outer s H E) (WD E) := takes_of rfl rfl rfl rfl
      have hc : (cxOf (L2.CX P w) P w K mg base N__law_there "_law_there" (defScope s__law_there) (He.ga K "_law_there") cdv A outer s H E).calm = true := rfl
      exact (ess_cons (es_set 1 hN (ee_if (et_cmp (op_neDD hu) (ee_sub hu (ee_var 0) ee_int) (ee_un (un_negD false) ee_int)) (ee_lst false (ea_cons (ee_sub hu (ee_var 0) ee_int) ea_nil)) (ee_lst false ea_nil)))
  (ess_cons (es_for 0 hp rfl (ei_of (ee_sub hu (ee_var 0) ee_int)) (eg_name 2 hN)
  (ess_one (es_set 1 hN (ee_op op_addD false (ee_var 1) (ee_callTy false cb_list (ea_cons (ee_var 2) ea_nil) h.f_list bb_list)))))
  (ess_one (es_ret (ee_callB true (cb_sortA rfl hu) (ea_cons (ee_var 1) ea_nil) h.f_sorted bb_sorted)))))
theorem ok__law_there (h : Hd K mg) : FOk P w K mg base 1 (He.ga K "_law_there") 1 f__law_there :=
  fok_of (N := N__law_there) (ps := ["_law_stand"]) m__law_there h.F__law_there sc__law_there rfl rfl bd__law_there (b__law_there h)
def b0__law_steps : SM := (sSeq (sSet 6 (eCallP 3 f__law_behind (aCons (eVar 0) (aCons (eVar 2) (aCons (eVar 5) aNil)))))
  (sIf (tAndD (t2 isNotG (eVar 6) (eC .non)) (tOrD (t2 neG (eVar 5) (eC (.str "out"))) (t2 eqG (e2 false ixG (eVar 2) (eC (.int 2))) (eVar 4))))
  (sDrop (eMt apG (eVar 3) (eTup (aCons (eVar 5) (aCons (eVar 6) aNil)))))
  sNil))
def m__law_steps : SM := (sSeq (sPar [3, 4] (aCons (eLst true aNil) (aCons (e2 false ixG (eVar 1) (e2 false subG (eCall false lenG (aCons (eVar 1) aNil)) (eCall false lenG (aCons (eCallP 1 f__law_there (aCons (eVar 2) aNil)) aNil)))) aNil)))
  (sSeq (sFor 0 (iOf (eTup (aCons (eC (.str "left")) (aCons (eC (.str "out")) (aCons (eC (.str "put")) (aCons (eC (.str "right")) (aCons (eC (.str "take")) aNil))))))) (gbName 5)
  b0__law_steps)
  (sRet (eVar 3))))
def f__law_steps : FM := fnM 4 m__law_steps
def N__law_steps : List Str := ["_law_lines", "_law_order_here", "_law_stand", "_law_found", "_law_due", "_law_deed", "_law_other"]
theorem sc__law_steps : FnScope N__law_steps ["_law_lines", "_law_order_here", "_law_stand"] (defScope s__law_steps) := ⟨rfl, rfl, rfl, by decide, by decide, by decide, by decide⟩
theorem bd__law_steps (kV doc pm : Value) (an : Option Addr) (cdv ct : Value) (us : List Value) (hl : us.length = (["_law_lines", "_law_order_here", "_law_stand"] : List Str).length) : bindArgs (PySem.W.fnOf "_law_steps" "_law_steps" (defArgs s__law_steps) (defBody s__law_steps) (defScope s__law_steps) .none kV doc pm an cdv ct) ⟨us, []⟩ = pure ((["_law_lines", "_law_order_here", "_law_stand"] : List Str).zip us) := match us, hl with | [_, _, _], _ => rfl
theorem b__law_steps (h : Hd K mg) (cdv : Value) (A : Around) (outer : List Env) (s : Shared) (H : Hp) (E : XK) (hr : Room 1 (A.deeper (envOfC "_law_steps" (defScope s__law_steps) s.heap.objs.size (He.ga K "_law_steps") cdv))) : ESs (cxOf (L2.CX P w) P w K mg base N__law_steps "_law_steps" (defScope s__law_steps) (He.ga K "_law_steps") cdv A outer s H E) (WD E) (defBody s__law_steps) m__law_steps := by
      have hN : N__law_steps.Nodup := by decide
      have hu := units_of hr
      have hp := passes_of (X := cxOf (L2.CX P w) P w K mg base N__law_steps "_law_steps" (defScope s__law_steps) (He.ga K "_law_steps") cdv A outer s H E) rfl
      have tk : Takes (cxOf (L2.CX P w) P w K mg base N__law_steps "_law_steps" (defScope s__law_steps) (He.ga K "_law_steps") cdv A outer s H E) (WD E) := takes_of rfl rfl rfl rfl
      have hc : (cxOf (L2.CX P w) P w K mg base N__law_steps "_law_steps" (defScope s__law_steps) (He.ga K "_law_steps") cdv A outer s H E).calm = true := rfl
      exact (ess_cons (es_par (i := 3) (j := 4) rfl hN (ea_cons (ee_lst true ea_nil) (ea_cons (ee_sub hu (ee_var 1) (ee_op op_subD false (ee_callB false cb_len (ea_cons (ee_var 1) ea_nil) h.f_len bb_len) (ee_callB false cb_len (ea_cons (ec_callP tk (ok__law_there h) (hr.mono (by decide)) h.g__law_there h.k__law_there (ea_cons (ee_var 2) ea_nil)) ea_nil) h.f_len bb_len))) ea_nil)))
  (ess_cons (es_for 0 hp rfl (ei_of (ee_tup (ea_cons ee_str (ea_cons ee_str (ea_cons ee_str (ea_cons ee_str (ea_cons ee_str ea_nil))))))) (eg_name 5 hN)
  (ess_cons (es_set 6 hN (ec_callP tk (ok__law_behind h) (hr.mono (by decide)) h.g__law_behind h.k__law_behind (ea_cons (ee_var 0) (ea_cons (ee_var 2) (ea_cons (ee_var 5) ea_nil)))))
  (ess_one (es_if (et_w (ew_and (et_cmp op_isNotD (ee_var 6) ee_non) (ew_and1 (et_w (ew_or (et_cmp (op_neDD hu) (ee_var 5) ee_str) (ew_or1 (et_cmp (op_eqDD hu) (ee_sub hu (ee_var 2) ee_int) (ee_var 4))))))))
  (ess_one (es_expr (ee_append (ee_var 3) (ee_tup (ea_cons (ee_var 5) (ea_cons (ee_var 6) ea_nil))))))
  ess_nil))))
  (ess_one (es_ret (ee_var 3)))))
theorem ok__law_steps (h : Hd K mg) : FOk P w K mg base 2 (He.ga K "_law_steps") 3 f__law_steps :=
  fok_of (N := N__law_steps) (ps := ["_law_lines", "_law_order_here", "_law_stand"]) m__law_steps h.F__law_steps sc__law_steps rfl rfl bd__law_steps (b__law_steps h)
def m__law_last : SM := (sRet (eAnd (e2 false eqG (e2 false ixG (eVar 0) (eC (.int 1))) (eC (.int 0))) (eAnd (e2 false neG (e2 false ixG (eVar 0) (eC (.int 2))) (e1 false negG (eC (.int 1)))) (e2 false eqG (eCallP 1 f__law_there (aCons (eVar 0) aNil)) (eLst false (aCons (e2 false ixG (eVar 0) (eC (.int 2))) aNil))))))
def f__law_last : FM := fnM 0 m__law_last
def N__law_last : List Str := ["_law_stand"]
theorem sc__law_last : FnScope N__law_last ["_law_stand"] (defScope s__law_last) := ⟨rfl, rfl, rfl, by decide, by decide, by decide, by decide⟩
theorem bd__law_last (kV doc pm : Value) (an : Option Addr) (cdv ct : Value) (us : List Value) (hl : us.length = (["_law_stand"] : List Str).length) : bindArgs (PySem.W.fnOf "_law_last" "_law_last" (defArgs s__law_last) (defBody s__law_last) (defScope s__law_last) .none kV doc pm an cdv ct) ⟨us, []⟩ = pure ((["_law_stand"] : List Str).zip us) := match us, hl with | [_], _ => rfl
theorem b__law_last (h : Hd K mg) (cdv : Value) (A : Around) (outer : List Env) (s : Shared) (H : Hp) (E : XK) (hr : Room 1 (A.deeper (envOfC "_law_last" (defScope s__law_last) s.heap.objs.size (He.ga K "_law_last") cdv))) : ESs (cxOf (L2.CX P w) P w K mg base N__law_last "_law_last" (defScope s__law_last) (He.ga K "_law_last") cdv A outer s H E) (WD E) (defBody s__law_last) m__law_last := by
      have hN : N__law_last.Nodup := by decide
      have hu := units_of hr
      have hp := passes_of (X := cxOf (L2.CX P w) P w K mg base N__law_last "_law_last" (defScope s__law_last) (He.ga K "_law_last") cdv A outer s H E) rfl
      have tk : Takes (cxOf (L2.CX P w) P w K mg base N__law_last "_law_last" (defScope s__law_last) (He.ga K "_law_last") cdv A outer s H E) (WD E) := takes_of rfl rfl rfl rfl
      have hc : (cxOf (L2.CX P w) P w K mg base N__law_last "_law_last" (defScope s__law_last) (He.ga K "_law_last") cdv A outer s H E).calm = true := rfl
      exact (ess_one (es_ret (ee_and (ee_cmp (op_eqDD hu) (ee_sub hu (ee_var 0) ee_int) ee_int) (ee_and (ee_cmp (op_neDD hu) (ee_sub hu (ee_var 0) ee_int) (ee_un (un_negD false) ee_int)) (ee_one (ee_cmp (op_eqDD hu) (ec_callP tk (ok__law_there h) (hr.mono (by decide)) h.g__law_there h.k__law_there (ea_cons (ee_var 0) ea_nil)) (ee_lst false (ea_cons (ee_sub hu (ee_var 0) ee_int) ea_nil))))))))
theorem ok__law_last (h : Hd K mg) : FOk P w K mg base 2 (He.ga K "_law_last") 1 f__law_last :=
  fok_of (N := N__law_last) (ps := ["_law_stand"]) m__law_last h.F__law_last sc__law_last rfl rfl bd__law_last (b__law_last h)
def b0__law_heights : SM := (sIf (tAndD (t2 notInG (eVar 8) (eVar 2)) (tNotD (tAndD (t2 eqG (eVar 7) (eC (.str "out"))) (tOf (eCallP 1 f__law_last (aCons (eVar 6) aNil))))))
  (sSeq (sPut (eVar 4) (eVar 2) (eVar 8))
  (sDrop (eMt apG (eVar 5) (eVar 8))))
  sNil)
def b1__law_heights : SM := (sFor 0 (iOf (eCallP 3 f__law_steps (aCons (eVar 0) (aCons (eVar 1) (aCons (eVar 6) aNil))))) (gbTup (gbCons (gbName 7) (gbCons (gbName 8) gbNil)))
  b0__law_heights)
def m__law_heights : SM := (sSeq (sPar [2, 3, 4] (aCons eDict (aCons (eLst false (aCons (eCallP 1 f__law_first (aCons (eVar 0) aNil)) aNil)) (aCons (eC (.int 0)) aNil))))
  (sSeq (sPut (eC (.int 0)) (eVar 2) (e2 false ixG (eVar 3) (eC (.int 0))))
  (sSeq (sWhile 100000 (t2 neG (eVar 3) (eLst false aNil))
  (sSeq (sPar [5, 4] (aCons (eLst true aNil) (aCons (e2 false addG (eVar 4) (eC (.int 1))) aNil)))
  (sSeq (sFor 0 (iOf (eVar 3)) (gbName 6)
  b1__law_heights)
  (sSet 3 (eVar 5)))))
  (sRet (eVar 2)))))
def f__law_heights : FM := fnM 7 m__law_heights
def N__law_heights : List Str := ["_law_lines", "_law_order_here", "_law_found", "_law_line", "_law_many", "_law_more", "_law_stand", "_law_deed", "_law_other"]
theorem sc__law_heights : FnScope N__law_heights ["_law_lines", "_law_order_here"] (defScope s__law_heights) := ⟨rfl, rfl, rfl, by decide, by decide, by decide, by decide⟩
theorem bd__law_heights (kV doc pm : Value) (an : Option Addr) (cdv ct : Value) (us : List Value) (hl : us.length = (["_law_lines", "_law_order_here"] : List Str).length) : bindArgs (PySem.W.fnOf "_law_heights" "_law_heights" (defArgs s__law_heights) (defBody s__law_heights) (defScope s__law_heights) .none kV doc pm an cdv ct) ⟨us, []⟩ = pure ((["_law_lines", "_law_order_here"] : List Str).zip us) := match us, hl with | [_, _], _ => rfl
theorem b__law_heights (h : Hd K mg) (cdv : Value) (A : Around) (outer : List Env) (s : Shared) (H : Hp) (E : XK) (hr : Room 2 (A.deeper (envOfC "_law_heights" (defScope s__law_heights) s.heap.objs.size (He.ga K "_law_heights") cdv))) : ESs (cxOf (L2.CX P w) P w K mg base N__law_heights "_law_heights" (defScope s__law_heights) (He.ga K "_law_heights") cdv A outer s H E) (WD E) (defBody s__law_heights) m__law_heights := by
      have hN : N__law_heights.Nodup := by decide
      have hu := units_of hr
      have hp := passes_of (X := cxOf (L2.CX P w) P w K mg base N__law_heights "_law_heights" (defScope s__law_heights) (He.ga K "_law_heights") cdv A outer s H E) rfl
      have tk : Takes (cxOf (L2.CX P w) P w K mg base N__law_heights "_law_heights" (defScope s__law_heights) (He.ga K "_law_heights") cdv A outer s H E) (WD E) := takes_of rfl rfl rfl rfl
      have hc : (cxOf (L2.CX P w) P w K mg base N__law_heights "_law_heights" (defScope s__law_heights) (He.ga K "_law_heights") cdv A outer s H E).calm = true := rfl
      exact (ess_cons (es_par3 (i := 2) (j := 3) (l := 4) rfl hN (ea_cons ee_dict (ea_cons (ee_lst false (ea_cons (ec_callP tk (ok__law_first h) (hr.mono (by decide)) h.g__law_first h.k__law_first (ea_cons (ee_var 0) ea_nil)) ea_nil)) (ea_cons ee_int ea_nil))))
  (ess_cons (es_put hu ee_int (ee_var 2) (ee_sub hu (ee_var 3) ee_int))
  (ess_cons (es_while 100000 hp (et_cmp (op_neDD hu) (ee_var 3) (ee_lst false ea_nil))
  (ess_cons (es_par (i := 5) (j := 4) rfl hN (ea_cons (ee_lst true ea_nil) (ea_cons (ee_op op_addD false (ee_var 4) ee_int) ea_nil)))
  (ess_cons (es_for 0 hp rfl (ei_of (ee_var 3)) (eg_name 6 hN)
  (ess_one (es_for 0 hp rfl (ei_of (ec_callP tk (ok__law_steps h) (hr.mono (by decide)) h.g__law_steps h.k__law_steps (ea_cons (ee_var 0) (ea_cons (ee_var 1) (ea_cons (ee_var 6) ea_nil))))) (eg_tup rfl (egs_cons (eg_name 7 hN) (egs_cons (eg_name 8 hN) egs_nil)))
  (ess_one (es_if (et_w (ew_and (et_cmp (op_notInDD hu) (ee_var 8) (ee_var 2)) (ew_and1 (et_not (et_w (ew_and (et_cmp (op_eqDD hu) (ee_var 7) ee_str) (ew_and1 (et_of (ec_callP tk (ok__law_last h) (hr.mono (by decide)) h.g__law_last h.k__law_last (ea_cons (ee_var 6) ea_nil))))))))))
  (ess_cons (es_put hu (ee_var 4) (ee_var 2) (ee_var 8))
  (ess_one (es_expr (ee_append (ee_var 5) (ee_var 8)))))
  ess_nil)))))
  (ess_one (es_set 3 hN (ee_var 5))))))
  (ess_one (es_ret (ee_var 2))))))
theorem ok__law_heights (h : Hd K mg) : FOk P w K mg base 3 (He.ga K "_law_heights") 2 f__law_heights :=
  fok_of (N := N__law_heights) (ps := ["_law_lines", "_law_order_here"]) m__law_heights h.F__law_heights sc__law_heights rfl rfl bd__law_heights (b__law_heights h)
def m__law_is_within : SM := (sSeq (sIf (tOrD (t2 gtG (eCall false lenG (aCons (eVar 3) aNil)) (eVar 2)) (tOf (eCall false anyG (aCons (eLc false (iOf (eVar 3)) (gbName 7) tYesD (e2 false notInG (eVar 7) (eTup (aCons (eC (.str "left")) (aCons (eC (.str "out")) (aCons (eC (.str "put")) (aCons (eC (.str "right")) (aCons (eC (.str "take")) aNil))))))) [7]) aNil))))
  (sRet (eC (.bl false)))
  sNil)
  (sSeq (sAsg (gbTup (gbCons (gbName 4) (gbCons (gbName 5) (gbCons (gbName 6) gbNil)))) (eCallP 2 f__law_gone (aCons (eVar 0) (aCons (eVar 3) aNil))))
  (sRet (eAnd (e2 false ltG (eVar 6) (eC (.int 0))) (eAnd (e2 false eqG (eVar 5) (eVar 1)) (e2 false eqG (eSl false (eVar 3) (oSome (e1 false negG (eC (.int 1)))) oNone) (eLst false (aCons (eC (.str "out")) aNil))))))))
def f__law_is_within : FM := fnM 4 m__law_is_within
def N__law_is_within : List Str := ["_law_lines", "_law_order_here", "_law_many", "_law_deeds", "_law_stand", "_law_gone_here", "_law_place", "_law_deed"]
theorem sc__law_is_within : FnScope N__law_is_within ["_law_lines", "_law_order_here", "_law_many", "_law_deeds"] (defScope s__law_is_within) := ⟨rfl, rfl, rfl, by decide, by decide, by decide, by decide⟩
theorem bd__law_is_within (kV doc pm : Value) (an : Option Addr) (cdv ct : Value) (us : List Value) (hl : us.length = (["_law_lines", "_law_order_here", "_law_many", "_law_deeds"] : List Str).length) : bindArgs (PySem.W.fnOf "_law_is_within" "_law_is_within" (defArgs s__law_is_within) (defBody s__law_is_within) (defScope s__law_is_within) .none kV doc pm an cdv ct) ⟨us, []⟩ = pure ((["_law_lines", "_law_order_here", "_law_many", "_law_deeds"] : List Str).zip us) := match us, hl with | [_, _, _, _], _ => rfl
theorem b__law_is_within (h : Hd K mg) (cdv : Value) (A : Around) (outer : List Env) (s : Shared) (H : Hp) (E : XK) (hr : Room 2 (A.deeper (envOfC "_law_is_within" (defScope s__law_is_within) s.heap.objs.size (He.ga K "_law_is_within") cdv))) : ESs (cxOf (L2.CX P w) P w K mg base N__law_is_within "_law_is_within" (defScope s__law_is_within) (He.ga K "_law_is_within") cdv A outer s H E) (WD E) (defBody s__law_is_within) m__law_is_within := by
      have hN : N__law_is_within.Nodup := by decide
      have hu := units_of hr
      have hp := passes_of (X := cxOf (L2.CX P w) P w K mg base N__law_is_within "_law_is_within" (defScope s__law_is_within) (He.ga K "_law_is_within") cdv A outer s H E) rfl
      have tk : Takes (cxOf (L2.CX P w) P w K mg base N__law_is_within "_law_is_within" (defScope s__law_is_within) (He.ga K "_law_is_within") cdv A outer s H E) (WD E) := takes_of rfl rfl rfl rfl
      have hc : (cxOf (L2.CX P w) P w K mg base N__law_is_within "_law_is_within" (defScope s__law_is_within) (He.ga K "_law_is_within") cdv A outer s H E).calm = true := rfl
      exact (ess_cons (es_if (et_w (ew_or (et_cmp op_gtD (ee_callB false cb_len (ea_cons (ee_var 3) ea_nil) h.f_len bb_len) (ee_var 2)) (ew_or1 (et_of (ee_callB false (cb_any rfl) (ea_cons (ee_lc false rfl hN [("_law_deed", 7)] (ei_of (ee_var 3)) (by rfl) (fun _ _ _ _ _ => (eg_name 7 hN)) (fun _ _ _ _ _ => ets_nil) (fun _ _ _ _ _ => (ee_cmp (op_notInDD hu) (ee_var 7) (ee_tup (ea_cons ee_str (ea_cons ee_str (ea_cons ee_str (ea_cons ee_str (ea_cons ee_str ea_nil))))))))) ea_nil) h.f_any bb_any)))))
  (ess_one (es_ret ee_bl))
  ess_nil)
  (ess_cons (es_asg (ec_callP tk (ok__law_gone h) (hr.mono (by decide)) h.g__law_gone h.k__law_gone (ea_cons (ee_var 0) (ea_cons (ee_var 3) ea_nil))) (eg_tup rfl (egs_cons (eg_name 4 hN) (egs_cons (eg_name 5 hN) (egs_cons (eg_name 6 hN) egs_nil)))))
  (ess_one (es_ret (ee_and (ee_cmp (op_ltD hu) (ee_var 6) ee_int) (ee_and (ee_cmp (op_eqDD hu) (ee_var 5) (ee_var 1)) (ee_one (ee_cmp (op_eqDD hu) (ee_sl false (ee_var 3) (eo_some (ee_un (un_negD false) ee_int)) eo_none) (ee_lst false (ea_cons ee_str ea_nil))))))))))
theorem ok__law_is_within (h : Hd K mg) : FOk P w K mg base 3 (He.ga K "_law_is_within") 4 f__law_is_within :=
  fok_of (N := N__law_is_within) (ps := ["_law_lines", "_law_order_here", "_law_many", "_law_deeds"]) m__law_is_within h.F__law_is_within sc__law_is_within rfl rfl bd__law_is_within (b__law_is_within h)
def b0__law_way : SM := (sSeq (sSet 7 (eLst false aNil))
  (sSeq (sIf (t2 eqG (e2 false ixG (eVar 2) (eVar 6)) (e2 false subG (e2 false ixG (eVar 2) (eVar 4)) (eC (.int 1))))
  (sSet 7 (eLc false (iOf (eCallP 3 f__law_steps (aCons (eVar 0) (aCons (eVar 1) (aCons (eVar 6) aNil))))) (gbTup (gbCons (gbName 8) (gbCons (gbName 9) gbNil))) (t2 eqG (eVar 9) (eVar 4)) (eVar 8) [8, 9]))
  sNil)
  (sIf (t2 neG (eVar 7) (eLst false aNil))
  (sSeq (sAsg (gbTup (gbCons (gbName 4) (gbCons (gbName 5) gbNil))) (eTup (aCons (eVar 6) (aCons (e2 true addG (eLst false (aCons (e2 false ixG (eVar 7) (eC (.int 0))) aNil)) (eVar 5)) aNil))))
  sBrk)
  sNil)))
def m__law_way : SM := (sSeq (sSet 3 (eCall false sortA (aCons (eLc false (iOf (eCall false sortA (aCons (eVar 2) aNil))) (gbName 6) (tOf (eCallP 1 f__law_last (aCons (eVar 6) aNil))) (eTup (aCons (e2 false ixG (eVar 2) (eVar 6)) (aCons (eVar 6) aNil))) [6]) aNil)))
  (sSeq (sIf (t2 eqG (eVar 3) (eLst false aNil))
  (sRet (eC .non))
  sNil)
  (sSeq (sAsg (gbTup (gbCons (gbName 4) (gbCons (gbName 5) gbNil))) (eTup (aCons (e2 false ixG (e2 false ixG (eVar 3) (eC (.int 0))) (eC (.int 1))) (aCons (eLst true (aCons (eC (.str "out")) aNil)) aNil))))
  (sSeq (sWhile 100000 (t2 neG (eVar 4) (eCallP 1 f__law_first (aCons (eVar 0) aNil)))
  (sFor 0 (iOf (eCall false sortA (aCons (eVar 2) aNil))) (gbName 6)
  b0__law_way))
  (sRet (eVar 5))))))
def f__law_way : FM := fnM 7 m__law_way
def N__law_way : List Str := ["_law_lines", "_law_order_here", "_law_heights_here", "_law_ends", "_law_here", "_law_found", "_law_stand", "_law_some", "_law_deed", "_law_other"]
theorem sc__law_way : FnScope N__law_way ["_law_lines", "_law_order_here", "_law_heights_here"] (defScope s__law_way) := ⟨rfl, rfl, rfl, by decide, by decide, by decide, by decide⟩
theorem bd__law_way (kV doc pm : Value) (an : Option Addr) (cdv ct : Value) (us : List Value) (hl : us.length = (["_law_lines", "_law_order_here", "_law_heights_here"] : List Str).length) : bindArgs (PySem.W.fnOf "_law_way" "_law_way" (defArgs s__law_way) (defBody s__law_way) (defScope s__law_way) .none kV doc pm an cdv ct) ⟨us, []⟩ = pure ((["_law_lines", "_law_order_here", "_law_heights_here"] : List Str).zip us) := match us, hl with | [_, _, _], _ => rfl
theorem b__law_way (h : Hd K mg) (cdv : Value) (A : Around) (outer : List Env) (s : Shared) (H : Hp) (E : XK) (hr : Room 2 (A.deeper (envOfC "_law_way" (defScope s__law_way) s.heap.objs.size (He.ga K "_law_way") cdv))) : ESs (cxOf (L2.CX P w) P w K mg base N__law_way "_law_way" (defScope s__law_way) (He.ga K "_law_way") cdv A outer s H E) (WD E) (defBody s__law_way) m__law_way := by
      have hN : N__law_way.Nodup := by decide
      have hu := units_of hr
      have hp := passes_of (X := cxOf (L2.CX P w) P w K mg base N__law_way "_law_way" (defScope s__law_way) (He.ga K "_law_way") cdv A outer s H E) rfl
      have tk : Takes (cxOf (L2.CX P w) P w K mg base N__law_way "_law_way" (defScope s__law_way) (He.ga K "_law_way") cdv A outer s H E) (WD E) := takes_of rfl rfl rfl rfl
      have hc : (cxOf (L2.CX P w) P w K mg base N__law_way "_law_way" (defScope s__law_way) (He.ga K "_law_way") cdv A outer s H E).calm = true := rfl
      exact (ess_cons (es_set 3 hN (ee_callB false (cb_sortA rfl hu) (ea_cons (ee_lc false rfl hN [("_law_stand", 6)] (ei_of (ee_callB false (cb_sortA rfl hu) (ea_cons (ee_var 2) ea_nil) h.f_sorted bb_sorted)) (by rfl) (fun _ _ _ _ _ => (eg_name 6 hN)) (fun _ _ _ _ _ => (ets_one (et_of (ec_callP takes0 (ok__law_last h) (hr.mono (by decide)) h.g__law_last h.k__law_last (ea_cons (ee_var 6) ea_nil))))) (fun _ _ _ _ _ => (ee_tup (ea_cons (ee_sub hu (ee_var 2) (ee_var 6)) (ea_cons (ee_var 6) ea_nil))))) ea_nil) h.f_sorted bb_sorted))
  (ess_cons (es_if (et_cmp (op_eqDD hu) (ee_var 3) (ee_lst false ea_nil))
  (ess_one (es_ret ee_non))
  ess_nil)
  (ess_cons (es_asg (ee_tup (ea_cons (ee_sub hu (ee_sub hu (ee_var 3) ee_int) ee_int) (ea_cons (ee_lst true (ea_cons ee_str ea_nil)) ea_nil))) (eg_tup rfl (egs_cons (eg_name 4 hN) (egs_cons (eg_name 5 hN) egs_nil))))
  (ess_cons (es_while 100000 hp (et_cmp (op_neDD hu) (ee_var 4) (ec_callP tk (ok__law_first h) (hr.mono (by decide)) h.g__law_first h.k__law_first (ea_cons (ee_var 0) ea_nil)))
  (ess_one (es_for 0 hp rfl (ei_of (ee_callB false (cb_sortA rfl hu) (ea_cons (ee_var 2) ea_nil) h.f_sorted bb_sorted)) (eg_name 6 hN)
  (ess_cons (es_set 7 hN (ee_lst false ea_nil))
  (ess_cons (es_if (et_cmp (op_eqDD hu) (ee_sub hu (ee_var 2) (ee_var 6)) (ee_op op_subD false (ee_sub hu (ee_var 2) (ee_var 4)) ee_int))
  (ess_one (es_setLc 7 false rfl hN [("_law_deed", 8), ("_law_other", 9)] (ei_of (ec_callP tk (ok__law_steps h) (hr.mono (by decide)) h.g__law_steps h.k__law_steps (ea_cons (ee_var 0) (ea_cons (ee_var 1) (ea_cons (ee_var 6) ea_nil))))) (by rfl) (fun _ _ _ _ _ => (eg_tup rfl (egs_cons (eg_name 8 hN) (egs_cons (eg_name 9 hN) egs_nil)))) (fun _ _ _ _ _ => (ets_one (et_cmp (op_eqDD hu) (ee_var 9) (ee_var 4)))) (fun _ _ _ _ _ => (ee_var 8))))
  ess_nil)
  (ess_one (es_if (et_cmp (op_neDD hu) (ee_var 7) (ee_lst false ea_nil))
  (ess_cons (es_asg (ee_tup (ea_cons (ee_var 6) (ea_cons (ee_op op_addD true (ee_lst false (ea_cons (ee_sub hu (ee_var 7) ee_int) ea_nil)) (ee_var 5)) ea_nil))) (eg_tup rfl (egs_cons (eg_name 4 hN) (egs_cons (eg_name 5 hN) egs_nil))))
  (ess_one es_break))
  ess_nil)))))))
  (ess_one (es_ret (ee_var 5)))))))
theorem ok__law_way (h : Hd K mg) : FOk P w K mg base 3 (He.ga K "_law_way") 3 f__law_way :=
  fok_of (N := N__law_way) (ps := ["_law_lines", "_law_order_here", "_law_heights_here"]) m__law_way h.F__law_way sc__law_way rfl rfl bd__law_way (b__law_way h)
def m__law_says : SM := (sRet (eAnd (eIsi (fB ["bool"]) (eVar 0)) (e2 false eqG (eVar 0) (eVar 1))))
def f__law_says : FM := fnM 0 m__law_says
def N__law_says : List Str := ["_law_said", "_law_due"]
theorem sc__law_says : FnScope N__law_says ["_law_said", "_law_due"] (defScope s__law_says) := ⟨rfl, rfl, rfl, by decide, by decide, by decide, by decide⟩
theorem bd__law_says (kV doc pm : Value) (an : Option Addr) (cdv ct : Value) (us : List Value) (hl : us.length = (["_law_said", "_law_due"] : List Str).length) : bindArgs (PySem.W.fnOf "_law_says" "_law_says" (defArgs s__law_says) (defBody s__law_says) (defScope s__law_says) .none kV doc pm an cdv ct) ⟨us, []⟩ = pure ((["_law_said", "_law_due"] : List Str).zip us) := match us, hl with | [_, _], _ => rfl
theorem b__law_says (h : Hd K mg) (cdv : Value) (A : Around) (outer : List Env) (s : Shared) (H : Hp) (E : XK) (hr : Room 0 (A.deeper (envOfC "_law_says" (defScope s__law_says) s.heap.objs.size (He.ga K "_law_says") cdv))) : ESs (cxOf (L2.CX P w) P w K mg base N__law_says "_law_says" (defScope s__law_says) (He.ga K "_law_says") cdv A outer s H E) (WD E) (defBody s__law_says) m__law_says := by
      have hN : N__law_says.Nodup := by decide
      have hu := units_of hr
      have hp := passes_of (X := cxOf (L2.CX P w) P w K mg base N__law_says "_law_says" (defScope s__law_says) (He.ga K "_law_says") cdv A outer s H E) rfl
      have tk : Takes (cxOf (L2.CX P w) P w K mg base N__law_says "_law_says" (defScope s__law_says) (He.ga K "_law_says") cdv A outer s H E) (WD E) := takes_of rfl rfl rfl rfl
      have hc : (cxOf (L2.CX P w) P w K mg base N__law_says "_law_says" (defScope s__law_says) (He.ga K "_law_says") cdv A outer s H E).calm = true := rfl
      exact (ess_one (es_ret (ee_and (ee_isiB "bool" "bool" (kb_bool _) (ee_var 0) h.f_isinstance h.f_bool bb_bool) (ee_one (ee_cmp (op_eqDD hu) (ee_var 0) (ee_var 1))))))
theorem ok__law_says (h : Hd K mg) : FOk P w K mg base 1 (He.ga K "_law_says") 2 f__law_says :=
  fok_of (N := N__law_says) (ps := ["_law_said", "_law_due"]) m__law_says h.F__law_says sc__law_says rfl rfl bd__law_says (b__law_says h)
def b0_law : SM := (sSeq (sSet 9 (eCall true lisG (aCons (eVar 7) aNil)))
  (sSeq (sSet 10 (eMake "Within" 2 f_Within_init (aCons (eVar 9) aNil)))
  (sSeq (sDrop (eMt apG (eVar 9) (eC (.str "out"))))
  (sSeq (sIf (t2 neG (eFldC cs_deeds "deeds" (eVar 10)) (eVar 7))
  (sRet (eC (.bl false)))
  sNil)
  (sIf (tBl (eChain leG ltG (eC (.int 0)) (eVar 8) (eC (.int 61))))
  (sSeq (sSet 11 (eCallP 4 f__law_is_within (aCons (eVar 2) (aCons (eVar 3) (aCons (eVar 8) (aCons (eVar 7) aNil))))))
  (sIf (tNotD (tOf (eCallP 2 f__law_says (aCons (eMethM [("Within", f_Within_shows)] "shows" 4 (eVar 10) (aCons (eVar 2) (aCons (eVar 3) (aCons (eVar 8) aNil)))) (aCons (eVar 11) aNil)))))
  (sRet (eC (.bl false)))
  sNil))
  sNil)))))
def b1_law : SM := (sFor 0 (iOf (eTup (aCons (eCall false lenG (aCons (eVar 7) aNil)) (aCons (e2 false subG (eCall false lenG (aCons (eVar 7) aNil)) (eC (.int 1))) (aCons (e2 false addG (eCall false lenG (aCons (eVar 7) aNil)) (eC (.int 1))) (aCons (eC (.int 60)) (aCons (eC (.int 0)) aNil))))))) (gbName 8)
  b0_law)
def b2_law : SM := (sSeq (sSet 2 (eCallP 3 f__law_yard (aCons (eVar 0) (aCons (eVar 1) (aCons (eC (.bl false)) aNil)))))
  (sSeq (sSet 3 (eCallP 3 f__law_order (aCons (eVar 0) (aCons (eVar 1) (aCons (eVar 2) aNil)))))
  (sSeq (sSet 4 (eCallP 3 f__law_way (aCons (eVar 2) (aCons (eVar 3) (aCons (eCallP 2 f__law_heights (aCons (eVar 2) (aCons (eVar 3) aNil))) aNil)))))
  (sSeq (sSet 5 (eIf (t2 isNotG (eVar 4) (eC .non)) (eVar 4) (eLst false (aCons (eC (.str "take")) (aCons (eC (.str "out")) aNil)))))
  (sSeq (sSet 6 (eLst true (aCons (eVar 5) (aCons (e2 false addG (eLst false (aCons (eC (.str "left")) (aCons (eC (.str "right")) aNil))) (eVar 5)) (aCons (e2 false addG (eVar 5) (eLst false (aCons (eC (.str "left")) aNil))) (aCons (eSl false (eVar 5) oNone (oSome (e1 false negG (eC (.int 1))))) (aCons (eSl false (eVar 5) (oSome (eC (.int 1))) oNone) (aCons (eLst false aNil) (aCons (e2 false addG (eLst false (aCons (eC (.str "halt")) aNil)) (eVar 5)) aNil)))))))))
  (sSeq (sSet 6 (e2 true addG (eVar 6) (eLst false (aCons (e2 false mulG (eLst false (aCons (eC (.str "right")) aNil)) (eC (.int 4))) (aCons (e2 false addG (eLst false (aCons (eC (.str "take")) (aCons (eC (.str "put")) aNil))) (eVar 5)) (aCons (e2 false addG (eLst false (aCons (eC (.str "right")) (aCons (eC (.str "right")) aNil))) (eVar 5)) (aCons (e2 false addG (eVar 5) (eLst false (aCons (eC (.str "out")) aNil))) (aCons (eLst false (aCons (eC (.str "out")) aNil)) aNil))))))))
  (sSeq (sDrop (eMt apG (eVar 6) (e2 false addG (e2 false mulG (eLst false (aCons (eC (.str "right")) aNil)) (eC (.int 200))) (eVar 5))))
  (sFor 0 (iOf (eVar 6)) (gbName 7)
  b1_law))))))))
def b3_law : SM := (sSeq (sPut (eVar 15) (eFldC cs_deeds "deeds" (eVar 12)) (eC (.int 0)))
  (sDrop (eMt apG (eVar 13) (eMethM [("Within", f_Within_shows)] "shows" 4 (eVar 12) (aCons (eLst false (aCons (eTup (aCons (eC (.int 2)) (aCons (eTup (aCons (eC (.int 0)) (aCons (eC (.int 1)) aNil))) aNil))) (aCons (eTup (aCons (eC (.int 1)) (aCons (eTup aNil) aNil))) aNil))) (aCons (eLst false (aCons (eC (.int 0)) (aCons (eC (.int 1)) aNil))) (aCons (eC (.int 60)) aNil)))))))
def b4_law : SM := (sIf (t2 isNotG (eMethM [("Within", f_Within_shows)] "shows" 4 (eMake "Within" 2 f_Within_init (aCons (eVar 7) aNil)) (aCons (eLst false (aCons (eTup (aCons (eC (.int 1)) (aCons (eTup (aCons (eC (.int 0)) aNil)) aNil))) (aCons (eTup (aCons (eC (.int 1)) (aCons (eTup aNil) aNil))) aNil))) (aCons (eLst false (aCons (eC (.int 0)) aNil)) (aCons (eC (.int 2)) aNil)))) (eC (.bl false)))
  (sRet (eC (.bl false)))
  sNil)
def m_law : SM := (sSeq (sFor 0 (iRng (eC (.int 2))) (gbName 1)
  (sP b2_law))
  (sSeq (sSet 12 (eCallS 3 f_within (aCons (eLst false (aCons (eTup (aCons (eC (.int 2)) (aCons (eTup (aCons (eC (.int 0)) (aCons (eC (.int 1)) aNil))) aNil))) (aCons (eTup (aCons (eC (.int 1)) (aCons (eTup aNil) aNil))) aNil))) (aCons (eLst false (aCons (eC (.int 0)) (aCons (eC (.int 1)) aNil))) (aCons (eC (.int 60)) aNil)))))
  (sSeq (sPar [13, 14] (aCons (eLst true (aCons (eMethM [("Within", f_Within_shows)] "shows" 4 (eVar 12) (aCons (eLst false (aCons (eTup (aCons (eC (.int 2)) (aCons (eTup (aCons (eC (.int 0)) (aCons (eC (.int 1)) aNil))) aNil))) (aCons (eTup (aCons (eC (.int 1)) (aCons (eTup aNil) aNil))) aNil))) (aCons (eLst false (aCons (eC (.int 1)) (aCons (eC (.int 0)) aNil))) (aCons (eC (.int 60)) aNil)))) aNil)) (aCons (e2 false ixG (eFldC cs_deeds "deeds" (eVar 12)) (eC (.int 0))) aNil)))
  (sSeq (sFor 0 (iOf (eTup (aCons (eC (.str "right")) (aCons (eC (.str "Take")) (aCons (eVar 14) aNil))))) (gbName 15)
  b3_law)
  (sSeq (sFor 0 (iOf (eTup (aCons (eLst false (aCons (eLst false (aCons (eC (.str "take")) aNil)) (aCons (eC (.str "out")) aNil))) (aCons (eLst false (aCons (eC (.int 0)) (aCons (eC (.str "out")) aNil))) (aCons (eLst false (aCons (eC (.str "take")) (aCons (eC (.int 1)) aNil))) (aCons (eLst false (aCons (eC (.str "take")) (aCons (eC (.str "out\n")) aNil))) (aCons (eLst false (aCons (eC (.str "take\n")) (aCons (eC (.str "out")) aNil))) aNil))))))) (gbName 7)
  b4_law)
  (sRet (eAnd (e2 false isG (e2 false ixG (eVar 13) (eC (.int 0))) (eC (.bl false))) (e2 false eqG (eSl false (eVar 13) (oSome (eC (.int 2))) oNone) (eLst false (aCons (eC (.bl false)) (aCons (eC (.bl true)) aNil)))))))))))
def f_law : FM := fnM 15 m_law
def N_law : List Str := ["_law_script", "_law_by", "_law_lines", "_law_order_here", "_law_way_here", "_law_deeds", "_law_lots", "_law_some", "_law_many", "_law_handed", "_law_answer", "_law_due", "_law_told", "_law_tells", "_law_first_here", "_law_deed"]
theorem sc_law : FnScope N_law ["_law_script"] (defScope s_law) := ⟨rfl, rfl, rfl, by decide, by decide, by decide, by decide⟩
theorem bd_law (kV doc pm : Value) (an : Option Addr) (cdv ct : Value) (us : List Value) (hl : us.length = (["_law_script"] : List Str).length) : bindArgs (PySem.W.fnOf "law" "law" (defArgs s_law) (defBody s_law) (defScope s_law) .none kV doc pm an cdv ct) ⟨us, []⟩ = pure ((["_law_script"] : List Str).zip us) := match us, hl with | [_], _ => rfl
theorem b_law (h : Hd K mg) (cdv : Value) (A : Around) (outer : List Env) (s : Shared) (H : Hp) (E : XK) (hr : Room 5 (A.deeper (envOfC "law" (defScope s_law) s.heap.objs.size (He.ga K "law") cdv))) : ESs (cxOf (L2.CX P w) P w K mg base N_law "law" (defScope s_law) (He.ga K "law") cdv A outer s H E) (WD E) (defBody s_law) m_law := by
      have hN : N_law.Nodup := by decide
      have hu := units_of hr
      have hp := passes_of (X := cxOf (L2.CX P w) P w K mg base N_law "law" (defScope s_law) (He.ga K "law") cdv A outer s H E) rfl
      have tk : Takes (cxOf (L2.CX P w) P w K mg base N_law "law" (defScope s_law) (He.ga K "law") cdv A outer s H E) (WD E) := takes_of rfl rfl rfl rfl
      have hc : (cxOf (L2.CX P w) P w K mg base N_law "law" (defScope s_law) (He.ga K "law") cdv A outer s H E).calm = true := rfl
      exact (ess_cons (es_for 0 hp rfl (ei_rng ee_int h.f_range) (eg_name 1 hN)
  (ess_P (ess_cons (es_set 2 hN (ec_callP tk (ok__law_yard h) (hr.mono (by decide)) h.g__law_yard h.k__law_yard (ea_cons (ee_var 0) (ea_cons (ee_var 1) (ea_cons ee_bl ea_nil)))))
  (ess_cons (es_set 3 hN (ec_callP tk (ok__law_order h) (hr.mono (by decide)) h.g__law_order h.k__law_order (ea_cons (ee_var 0) (ea_cons (ee_var 1) (ea_cons (ee_var 2) ea_nil)))))
  (ess_cons (es_set 4 hN (ec_callP tk (ok__law_way h) (hr.mono (by decide)) h.g__law_way h.k__law_way (ea_cons (ee_var 2) (ea_cons (ee_var 3) (ea_cons (ec_callP tk (ok__law_heights h) (hr.mono (by decide)) h.g__law_heights h.k__law_heights (ea_cons (ee_var 2) (ea_cons (ee_var 3) ea_nil))) ea_nil)))))
  (ess_cons (es_set 5 hN (ee_if (et_cmp op_isNotD (ee_var 4) ee_non) (ee_var 4) (ee_lst false (ea_cons ee_str (ea_cons ee_str ea_nil)))))
  (ess_cons (es_set 6 hN (ee_lst true (ea_cons (ee_var 5) (ea_cons (ee_op op_addD false (ee_lst false (ea_cons ee_str (ea_cons ee_str ea_nil))) (ee_var 5)) (ea_cons (ee_op op_addD false (ee_var 5) (ee_lst false (ea_cons ee_str ea_nil))) (ea_cons (ee_sl false (ee_var 5) eo_none (eo_some (ee_un (un_negD false) ee_int))) (ea_cons (ee_sl false (ee_var 5) (eo_some ee_int) eo_none) (ea_cons (ee_lst false ea_nil) (ea_cons (ee_op op_addD false (ee_lst false (ea_cons ee_str ea_nil)) (ee_var 5)) ea_nil)))))))))
  (ess_cons (es_set 6 hN (ee_op op_addD true (ee_var 6) (ee_lst false (ea_cons (ee_op op_mulD false (ee_lst false (ea_cons ee_str ea_nil)) ee_int) (ea_cons (ee_op op_addD false (ee_lst false (ea_cons ee_str (ea_cons ee_str ea_nil))) (ee_var 5)) (ea_cons (ee_op op_addD false (ee_lst false (ea_cons ee_str (ea_cons ee_str ea_nil))) (ee_var 5)) (ea_cons (ee_op op_addD false (ee_var 5) (ee_lst false (ea_cons ee_str ea_nil))) (ea_cons (ee_lst false (ea_cons ee_str ea_nil)) ea_nil))))))))
  (ess_cons (es_expr (ee_append (ee_var 6) (ee_op op_addD false (ee_op op_mulD false (ee_lst false (ea_cons ee_str ea_nil)) ee_int) (ee_var 5))))
  (ess_one (es_for 0 hp rfl (ei_of (ee_var 6)) (eg_name 7 hN)
  (ess_one (es_for 0 hp rfl (ei_of (ee_tup (ea_cons (ee_callB false cb_len (ea_cons (ee_var 7) ea_nil) h.f_len bb_len) (ea_cons (ee_op op_subD false (ee_callB false cb_len (ea_cons (ee_var 7) ea_nil) h.f_len bb_len) ee_int) (ea_cons (ee_op op_addD false (ee_callB false cb_len (ea_cons (ee_var 7) ea_nil) h.f_len bb_len) ee_int) (ea_cons ee_int (ea_cons ee_int ea_nil))))))) (eg_name 8 hN)
  (ess_cons (es_set 9 hN (ee_callTy true cb_list (ea_cons (ee_var 7) ea_nil) h.f_list bb_list))
  (ess_cons (es_set 10 hN (ec_make tk h.mk_Within (ok_Within_init h) (hr.mono (by decide)) h.g_Within (ea_cons (ee_var 9) ea_nil)))
  (ess_cons (es_expr (ee_append (ee_var 9) ee_str))
  (ess_cons (es_if (et_cmp (op_neDD hu) (ee_fld cs_deeds h.at_deeds (ee_var 10)) (ee_var 7))
  (ess_one (es_ret ee_bl))
  ess_nil)
  (ess_one (es_if (et_chain2 op_leD (op_ltD hu) ee_int (ee_var 8) ee_int)
  (ess_cons (es_set 11 hN (ec_callP tk (ok__law_is_within h) (hr.mono (by decide)) h.g__law_is_within h.k__law_is_within (ea_cons (ee_var 2) (ea_cons (ee_var 3) (ea_cons (ee_var 8) (ea_cons (ee_var 7) ea_nil))))))
  (ess_one (es_if (et_not (et_of (ec_callP tk (ok__law_says h) (hr.mono (by decide)) h.g__law_says h.k__law_says (ea_cons (ee_methS [("Within", f_Within_shows)] tk (List.forall_mem_cons.mpr ⟨meth_of h.c_Within h.me_Within_shows (ok_Within_shows h) (hr.mono (by decide)), fun _ z => nomatch z⟩) (ee_var 10) (ea_cons (ee_var 2) (ea_cons (ee_var 3) (ea_cons (ee_var 8) ea_nil)))) (ea_cons (ee_var 11) ea_nil)))))
  (ess_one (es_ret ee_bl))
  ess_nil)))
  ess_nil)))))))))))))))))))
  (ess_cons (es_set 12 hN (ec_callS tk (ok_within h) (hr.mono (by decide)) h.g_within h.k_within (ea_cons (ee_lst false (ea_cons (ee_tup (ea_cons ee_int (ea_cons (ee_tup (ea_cons ee_int (ea_cons ee_int ea_nil))) ea_nil))) (ea_cons (ee_tup (ea_cons ee_int (ea_cons (ee_tup ea_nil) ea_nil))) ea_nil))) (ea_cons (ee_lst false (ea_cons ee_int (ea_cons ee_int ea_nil))) (ea_cons ee_int ea_nil)))))
  (ess_cons (es_par (i := 13) (j := 14) rfl hN (ea_cons (ee_lst true (ea_cons (ee_methS [("Within", f_Within_shows)] tk (List.forall_mem_cons.mpr ⟨meth_of h.c_Within h.me_Within_shows (ok_Within_shows h) (hr.mono (by decide)), fun _ z => nomatch z⟩) (ee_var 12) (ea_cons (ee_lst false (ea_cons (ee_tup (ea_cons ee_int (ea_cons (ee_tup (ea_cons ee_int (ea_cons ee_int ea_nil))) ea_nil))) (ea_cons (ee_tup (ea_cons ee_int (ea_cons (ee_tup ea_nil) ea_nil))) ea_nil))) (ea_cons (ee_lst false (ea_cons ee_int (ea_cons ee_int ea_nil))) (ea_cons ee_int ea_nil)))) ea_nil)) (ea_cons (ee_sub hu (ee_fld cs_deeds h.at_deeds (ee_var 12)) ee_int) ea_nil)))
  (ess_cons (es_for 0 hp rfl (ei_of (ee_tup (ea_cons ee_str (ea_cons ee_str (ea_cons (ee_var 14) ea_nil))))) (eg_name 15 hN)
  (ess_cons (es_put hu (ee_var 15) (ee_fld cs_deeds h.at_deeds (ee_var 12)) ee_int)
  (ess_one (es_expr (ee_append (ee_var 13) (ee_methS [("Within", f_Within_shows)] tk (List.forall_mem_cons.mpr ⟨meth_of h.c_Within h.me_Within_shows (ok_Within_shows h) (hr.mono (by decide)), fun _ z => nomatch z⟩) (ee_var 12) (ea_cons (ee_lst false (ea_cons (ee_tup (ea_cons ee_int (ea_cons (ee_tup (ea_cons ee_int (ea_cons ee_int ea_nil))) ea_nil))) (ea_cons (ee_tup (ea_cons ee_int (ea_cons (ee_tup ea_nil) ea_nil))) ea_nil))) (ea_cons (ee_lst false (ea_cons ee_int (ea_cons ee_int ea_nil))) (ea_cons ee_int ea_nil)))))))))
  (ess_cons (es_for 0 hp rfl (ei_of (ee_tup (ea_cons (ee_lst false (ea_cons (ee_lst false (ea_cons ee_str ea_nil)) (ea_cons ee_str ea_nil))) (ea_cons (ee_lst false (ea_cons ee_int (ea_cons ee_str ea_nil))) (ea_cons (ee_lst false (ea_cons ee_str (ea_cons ee_int ea_nil))) (ea_cons (ee_lst false (ea_cons ee_str (ea_cons ee_str ea_nil))) (ea_cons (ee_lst false (ea_cons ee_str (ea_cons ee_str ea_nil))) ea_nil))))))) (eg_name 7 hN)
  (ess_one (es_if (et_cmp op_isNotD (ee_methS [("Within", f_Within_shows)] tk (List.forall_mem_cons.mpr ⟨meth_of h.c_Within h.me_Within_shows (ok_Within_shows h) (hr.mono (by decide)), fun _ z => nomatch z⟩) (ec_make tk h.mk_Within (ok_Within_init h) (hr.mono (by decide)) h.g_Within (ea_cons (ee_var 7) ea_nil)) (ea_cons (ee_lst false (ea_cons (ee_tup (ea_cons ee_int (ea_cons (ee_tup (ea_cons ee_int ea_nil)) ea_nil))) (ea_cons (ee_tup (ea_cons ee_int (ea_cons (ee_tup ea_nil) ea_nil))) ea_nil))) (ea_cons (ee_lst false (ea_cons ee_int ea_nil)) (ea_cons ee_int ea_nil)))) ee_bl)
  (ess_one (es_ret ee_bl))
  ess_nil)))
  (ess_one (es_ret (ee_and (ee_cmp op_isD (ee_sub hu (ee_var 13) ee_int) ee_bl) (ee_one (ee_cmp (op_eqDD hu) (ee_sl false (ee_var 13) (eo_some ee_int) eo_none) (ee_lst false (ea_cons ee_bl (ea_cons ee_bl ea_nil)))))))))))))
theorem ok_law (h : Hd K mg) : FOk P w K mg base 6 (He.ga K "law") 1 f_law :=
  fok_of (N := N_law) (ps := ["_law_script"]) m_law h.F_law sc_law rfl rfl bd_law (b_law h)
theorem law_all (P : Program) (w : World) (h : Hd K mg) : ∃ fd, (∀ (s : Shared) (u : Value), BindsTo s fd ⟨[u], []⟩ [("_law_script", u)]) ∧ ∀ base : Heap, FnOk P w K mg base (L2.CX P w) 6 (He.ga K "law") fd ["_law_script"] (spE ⟨P, w, K⟩ 1 f_law) := by
  obtain ⟨fd, F⟩ := h.F_law
  exact ⟨fd, fun s u => F.bindsA bd_law s [u] rfl, fun base => fn_ok m_law F sc_law rfl rfl (b_law h)⟩
end
end Lw

/-! The mirrors computed: equations for simp. -/
namespace Tb
open PySem
section
variable {τ : Tau} {lh : LH} {al : Bool}
@[simp] theorem z_var {i : Nat} : eVar i τ lh = (match τ[i]? with | some (some d) => .ok d lh | _ => .stuck) := rfl
@[simp] theorem z_c {d : D} : eC d τ lh = .ok d lh := rfl
@[simp] theorem z_ok {α β : Type} {a : α} {f : α → LH → Res β} : (Res.ok a lh).bind f = f a lh := rfl
@[simp] theorem z_ex {α β : Type} {c : Str} {f : α → LH → Res β} : (Res.exc c lh : Res α).bind f = .exc c lh := rfl
@[simp] theorem z_rv {d : D} : (Ro.v d).res al lh = .ok d lh := rfl
@[simp] theorem z_rl {ds : List D} : (Ro.l ds).res false lh = .ok (.lst ds) lh := rfl
@[simp] theorem z_rl2 {ds : List D} : (Ro.l ds).res true lh = .ok (.loc lh.length) (lh ++ [.lst ds]) := rfl
@[simp] theorem z_e2 {g : LH → D → D → Ro} {a b : EM} : e2 al g a b τ lh = (a τ lh).bind fun d lh => (b τ lh).bind fun e lh => (g lh d e).res al lh := rfl
@[simp] theorem z_e1 {g : LH → D → Ro} {a : EM} : e1 al g a τ lh = (a τ lh).bind fun d lh => (g lh d).res al lh := rfl
@[simp] theorem z_an : aNil τ lh = .ok [] lh := rfl
@[simp] theorem z_ac {m : EM} {r : AM} : aCons m r τ lh = (m τ lh).bind fun d lh => (r τ lh).bind fun ds lh => .ok (d :: ds) lh := rfl
theorem two_le : (16 : Nat) ≤ sizeLine := by decide
@[simp] theorem z_tup {r : AM} : eTup r τ lh = (r τ lh).bind fun ds lh => if ds.length ≤ sizeLine then .ok (.tup ds) lh else .stuck := rfl
@[simp] theorem z_lst {r : AM} : eLst al r τ lh = (r τ lh).bind fun ds lh => if ds.length ≤ sizeLine then (Ro.l ds).res al lh else .stuck := rfl
@[simp] theorem z_call {g : LH → List D → Ro} {r : AM} : eCall al g r τ lh = (r τ lh).bind fun ds lh => (g lh ds).res al lh := rfl
@[simp] theorem z_callP {n : Nat} {f : FM} {r : AM} : eCallP n f r τ lh = (r τ lh).bind fun ds lh => if ds.length = n then callP f ds lh else .stuck := rfl
@[simp] theorem z_callS {n : Nat} {f : FM} {r : AM} : eCallS n f r τ lh = (r τ lh).bind fun ds lh => if ds.length = n then f ds lh else .stuck := rfl
@[simp] theorem z_of {m : EM} : tOf m τ lh = (m τ lh).bind fun d lh => (match truD lh d with | some b => .ok b lh | none => .stuck) := rfl
@[simp] theorem z_t2 {g : LH → D → D → Ro} {a b : EM} : t2 g a b τ lh = (a τ lh).bind fun d lh => (b τ lh).bind fun e lh => (match g lh d e with | .v (.bl b) => .ok b lh | _ => .stuck) := rfl
@[simp] theorem z_and {a b : TM} : tAndD a b τ lh = (a τ lh).bind fun x lh => if x = true then b τ lh else .ok false lh := rfl
@[simp] theorem z_or {a b : TM} : tOrD a b τ lh = (a τ lh).bind fun x lh => if x = true then .ok true lh else b τ lh := rfl
@[simp] theorem z_not {a : TM} : tNotD a τ lh = (a τ lh).bind fun x lh => .ok (!x) lh := rfl
@[simp] theorem z_if {c : TM} {a b : EM} : eIf c a b τ lh = (c τ lh).bind fun x lh => if x = true then a τ lh else b τ lh := rfl
@[simp] theorem z_eand {a b : EM} : eAnd a b τ lh = (a τ lh).bind fun d lh => (match truD lh d with | some true => b τ lh | some false => .ok d lh | none => .stuck) := rfl
@[simp] theorem z_eor {a b : EM} : eOr a b τ lh = (a τ lh).bind fun d lh => (match truD lh d with | some true => .ok d lh | some false => b τ lh | none => .stuck) := rfl
@[simp] theorem z_enot {a : EM} : eNot a τ lh = (a τ lh).bind fun d lh => (match truD lh d with | some b => .ok (.bl (!b)) lh | none => .stuck) := rfl
@[simp] theorem z_sl {m : EM} {lo hi : OM} : eSl al m lo hi τ lh = (m τ lh).bind fun d lh => (lo τ lh).bind fun l lh => (hi τ lh).bind fun h lh => (slG lh d l h).res al lh := rfl
@[simp] theorem z_on : oNone τ lh = .ok none lh := rfl
@[simp] theorem z_os {m : EM} : oSome m τ lh = (m τ lh).bind fun d lh => (match d with | .int i => .ok (some i) lh | _ => .stuck) := rfl
@[simp] theorem z_nil : sNil τ lh = .nx τ lh := rfl
@[simp] theorem z_seq {a b : SM} : sSeq a b τ lh = (a τ lh).seq b := rfl
@[simp] theorem z_sq1 {f : Tau → LH → SRes} : (SRes.nx τ lh).seq f = f τ lh := rfl
@[simp] theorem z_sq2 {d : D} {f : Tau → LH → SRes} : (SRes.rt d lh).seq f = .rt d lh := rfl
@[simp] theorem z_toS {α : Type} {a : α} {k : α → LH → SRes} : (Res.ok a lh).toS τ k = k a lh := rfl
@[simp] theorem z_drop {m : EM} : sDrop m τ lh = (m τ lh).toS τ fun _ lh => .nx τ lh := rfl
@[simp] theorem z_ret {m : EM} : sRet m τ lh = (m τ lh).toS τ fun d lh => .rt d lh := rfl
@[simp] theorem z_sif {c : TM} {a b : SM} : sIf c a b τ lh = (c τ lh).toS τ fun x lh => if x = true then a τ lh else b τ lh := rfl
@[simp] theorem z_set {i : Nat} {m : EM} : sSet i m τ lh = (m τ lh).toS τ fun d lh => .nx (τ.set i (some d)) lh := rfl
@[simp] theorem z_asg {g : GB} {m : EM} : sAsg g m τ lh = (m τ lh).toS τ fun d lh => (match g lh d with | some bs => .nx (setAll τ (bs.map (·.1)) (bs.map (·.2))) lh | none => .stuck) := rfl
@[simp] theorem z_par {is : List Nat} {m : AM} : sPar is m τ lh = (m τ lh).toS τ fun ds lh => if ds.length = is.length then .nx (setAll τ is ds) lh else .stuck := rfl
@[simp] theorem z_for {n : Nat} {m : IM} {g : GB} {b : SM} : sFor n m g b τ lh = (m τ lh).toS τ fun it lh => sForW n g b it τ lh := rfl
@[simp] theorem z_iof {m : EM} : iOf m τ lh = (m τ lh).bind fun d lh => (match d with | .loc n => if (lstAt lh n).isSome = true then .ok (.dy n) lh else .stuck | d => (match asS lh d with | some ds => .ok (.st ds) lh | none => .stuck)) := rfl
@[simp] theorem z_gn {i : Nat} {d : D} : gbName i lh d = some [(i, d)] := rfl
@[simp] theorem z_gnil : gbNil lh [] = some [] := rfl
@[simp] theorem z_gc {g : GB} {gs : GBs} {d : D} {ds : List D} : gbCons g gs lh (d :: ds) = (match g lh d with | some b => (match gs lh ds with | some bs => some (b ++ bs) | none => none) | none => none) := rfl
@[simp] theorem z_gt {gs : GBs} {ds : List D} : gbTup gs lh (.tup ds) = gs lh ds := rfl
@[simp] theorem z_sa0 {α : Type} {σ : List (Option α)} {ws : List α} : setAll σ [] ws = σ := by unfold setAll; rfl
@[simp] theorem z_sa {α : Type} {σ : List (Option α)} {i : Nat} {is : List Nat} {w : α} {ws : List α} : setAll σ (i :: is) (w :: ws) = setAll (σ.set i (some w)) is ws := rfl
@[simp] theorem z_add {i j : Int} : addG lh (.int i) (.int j) = .v (.int (i + j)) := rfl
@[simp] theorem z_addT {xs ys : List D} : addG lh (.tup xs) (.tup ys) = if xs.length + ys.length ≤ sizeLine then .v (.tup (xs ++ ys)) else .no := rfl
@[simp] theorem z_sub {i j : Int} : subG lh (.int i) (.int j) = .v (.int (i - j)) := rfl
@[simp] theorem z_mul {i j : Int} : mulG lh (.int i) (.int j) = if (-(2 ^ 64) < i ∧ i < 2 ^ 64) ∨ (-(2 ^ 64) < j ∧ j < 2 ^ 64) then .v (.int (i * j)) else .no := rfl
@[simp] theorem z_mod {i j : Int} : modG lh (.int i) (.int j) = if j ≠ 0 then .v (.int (i.fmod j)) else .no := rfl
@[simp] theorem z_fdiv {i j : Int} : fdivG lh (.int i) (.int j) = if j ≠ 0 ∧ j.natAbs < 1073741824 then .v (.int (i.fdiv j)) else .no := rfl
@[simp] theorem z_neg {i : Int} : negG lh (.int i) = .v (.int (-i)) := rfl
@[simp] theorem z_lt {i j : Int} : ltG lh (.int i) (.int j) = .v (.bl (decide (i < j))) := rfl
@[simp] theorem z_le {i j : Int} : leG lh (.int i) (.int j) = .v (.bl (decide (i ≤ j))) := rfl
@[simp] theorem z_gt' {i j : Int} : gtG lh (.int i) (.int j) = .v (.bl (decide (j < i))) := rfl
@[simp] theorem z_ge {i j : Int} : geG lh (.int i) (.int j) = .v (.bl (decide (j ≤ i))) := rfl
@[simp] theorem z_eqI {i j : Int} : eqG lh (.int i) (.int j) = .v (.bl (i == j)) := rfl
@[simp] theorem z_neI {i j : Int} : neG lh (.int i) (.int j) = .v (.bl (!(i == j))) := rfl
@[simp] theorem q_left_left : eqG lh (.str "left") (.str "left") = .v (.bl true) := by kernel_rfl
@[simp] theorem q_left_right : eqG lh (.str "left") (.str "right") = .v (.bl false) := by kernel_rfl
@[simp] theorem q_left_take : eqG lh (.str "left") (.str "take") = .v (.bl false) := by kernel_rfl
@[simp] theorem q_left_put : eqG lh (.str "left") (.str "put") = .v (.bl false) := by kernel_rfl
@[simp] theorem q_left_out : eqG lh (.str "left") (.str "out") = .v (.bl false) := by kernel_rfl
@[simp] theorem q_right_left : eqG lh (.str "right") (.str "left") = .v (.bl false) := by kernel_rfl
@[simp] theorem q_right_right : eqG lh (.str "right") (.str "right") = .v (.bl true) := by kernel_rfl
@[simp] theorem q_right_take : eqG lh (.str "right") (.str "take") = .v (.bl false) := by kernel_rfl
@[simp] theorem q_right_put : eqG lh (.str "right") (.str "put") = .v (.bl false) := by kernel_rfl
@[simp] theorem q_right_out : eqG lh (.str "right") (.str "out") = .v (.bl false) := by kernel_rfl
@[simp] theorem q_take_left : eqG lh (.str "take") (.str "left") = .v (.bl false) := by kernel_rfl
@[simp] theorem q_take_right : eqG lh (.str "take") (.str "right") = .v (.bl false) := by kernel_rfl
@[simp] theorem q_take_take : eqG lh (.str "take") (.str "take") = .v (.bl true) := by kernel_rfl
@[simp] theorem q_take_put : eqG lh (.str "take") (.str "put") = .v (.bl false) := by kernel_rfl
@[simp] theorem q_take_out : eqG lh (.str "take") (.str "out") = .v (.bl false) := by kernel_rfl
@[simp] theorem q_put_left : eqG lh (.str "put") (.str "left") = .v (.bl false) := by kernel_rfl
@[simp] theorem q_put_right : eqG lh (.str "put") (.str "right") = .v (.bl false) := by kernel_rfl
@[simp] theorem q_put_take : eqG lh (.str "put") (.str "take") = .v (.bl false) := by kernel_rfl
@[simp] theorem q_put_put : eqG lh (.str "put") (.str "put") = .v (.bl true) := by kernel_rfl
@[simp] theorem q_put_out : eqG lh (.str "put") (.str "out") = .v (.bl false) := by kernel_rfl
@[simp] theorem q_out_left : eqG lh (.str "out") (.str "left") = .v (.bl false) := by kernel_rfl
@[simp] theorem q_out_right : eqG lh (.str "out") (.str "right") = .v (.bl false) := by kernel_rfl
@[simp] theorem q_out_take : eqG lh (.str "out") (.str "take") = .v (.bl false) := by kernel_rfl
@[simp] theorem q_out_put : eqG lh (.str "out") (.str "put") = .v (.bl false) := by kernel_rfl
@[simp] theorem q_out_out : eqG lh (.str "out") (.str "out") = .v (.bl true) := by kernel_rfl
/-- at a place from the left -/
theorem ix_nat {xs : List D} {i : Nat} {z : D} (h : xs[i]? = some z) : L2.atI xs (i : Int) = some z := by
  obtain ⟨hi, e⟩ := List.getElem?_eq_some_iff.mp h
  unfold L2.atI L2.ixN
  rw [if_pos (by omega), if_pos (by omega)]
  simpa using h
theorem z_ixT {xs : List D} {i : Nat} {z : D} (h : xs[i]? = some z) : ixG lh (.tup xs) (.int (i : Int)) = .v z := by
  unfold ixG asS
  simp [ix_nat h]
theorem z_ixL {xs : List D} {i : Nat} {z : D} (h : xs[i]? = some z) : ixG lh (.lst xs) (.int (i : Int)) = .v z := by
  unfold ixG asS asL
  simp [ix_nat h]
theorem cut_to {xs : List D} {i : Nat} (h : i ≤ xs.length) : cutD xs none (some (i : Int)) = xs.take i := by
  unfold cutD
  rw [HT.sIx_nat, HT.sIx_none]
  simp [Nat.min_eq_left h]
theorem cut_from {xs : List D} {i : Nat} (h : i ≤ xs.length) : cutD xs (some (i : Int)) none = xs.drop i := by
  unfold cutD
  rw [HT.sIx_nat, HT.sIx_none, Nat.min_eq_left h, List.take_of_length_le (by simp)]
theorem put_at {xs : List D} {i : Nat} (h : i < xs.length) (z : D) : xs.take i ++ z :: xs.drop (i + 1) = xs.set i z := by
  rw [List.set_eq_take_append_cons_drop, if_pos h]
end
/-! ### how data is told -/
def rowD (r : List Int) : D := .tup (r.map .int)
def standD (rows : List (List Int)) (place : Int) (e : Int) : D := .tup [.tup (rows.map rowD), .int place, .int e]
def lineD (q : Int × List Int) : D := .tup [.int q.1, rowD q.2]
def linesD (ls : List (Int × List Int)) : D := .lst (ls.map lineD)
theorem toP_ints (lh : LH) (n : Nat) : ∀ r : List Int, mapO (toP lh (n + 1)) (r.map D.int) = some (r.map PyData.int)
  | [] => rfl
  | a :: r => by
    have := toP_ints lh n r
    simp only [List.map_cons, mapO, toP] at this ⊢
    rw [this]
theorem canLay_ints : ∀ r : List Int, PyData.canLayAll0 (r.map PyData.int) = true
  | [] => rfl
  | a :: r => by
    simp only [List.map_cons, PyData.canLayAll0, canLay_ints r, PyData.canLay0, Bool.and_self]
theorem shaped_row (r : List Int) : SeqAt.shaped (.tuple (r.map PyData.int)) = true := by
  unfold SeqAt.shaped
  have h1 : (PyData.tuple (r.map PyData.int)).canLay0 = true := by simp only [PyData.canLay0]; exact canLay_ints r
  have h2 : (PyData.tuple (r.map PyData.int)).depth ≤ 64 := by
    simp only [PyData.depth, PySem.W.depth_ints r]
    omega
  rw [h1]
  simp [h2]
theorem toP_row (lh : LH) (n : Nat) (r : List Int) : toP lh (n + 2) (rowD r) = some (.tuple (r.map PyData.int)) := by
  show (match mapO (toP lh (n + 1)) (r.map D.int) with
    | some ks => some (PyData.tuple ks)
    | none => none) = _
  rw [toP_ints]
theorem eq_row0 {lh : LH} (r : List Int) : eqG lh (rowD r) (.tup []) = .v (.bl r.isEmpty) := by
  unfold eqG
  rw [show fuel = 10 + 2 from rfl, toP_row, show toP lh (10 + 2) (.tup []) = some (.tuple ([].map PyData.int)) from rfl]
  simp only [shaped_row, and_self, if_true]
  cases r <;> rfl
@[simp] theorem z_slT {lh : LH} {xs : List D} {l h : Option Int} : slG lh (.tup xs) l h = .v (.tup (cutD xs l h)) := rfl
@[simp] theorem z_slL {lh : LH} {xs : List D} {l h : Option Int} : slG lh (.lst xs) l h = .l (cutD xs l h) := rfl
theorem cut_one (x : D) (xs : List D) : cutD (x :: xs) (some 1) none = xs := by
  have := cut_from (xs := x :: xs) (i := 1) (by simp)
  simpa using this
theorem cut_from1 {xs : List D} {i : Nat} (h : i < xs.length) : cutD xs (some ((i : Int) + 1)) none = xs.drop (i + 1) := cut_from (xs := xs) (i := i + 1) h
theorem le3 {n : Nat} (h : n ≤ 3) : n ≤ sizeLine := Nat.le_trans h (by decide)
theorem add_a {lh : LH} {xs : List D} {i : Nat} (h : i < xs.length) (h3 : xs.length ≤ 3) (z : D) : addG lh (.tup (xs.take i)) (.tup [z]) = .v (.tup (xs.take i ++ [z])) := by
  rw [z_addT, if_pos (le3 (by simp; omega))]
theorem add_b {lh : LH} {xs : List D} {i : Nat} (h : i < xs.length) (h3 : xs.length ≤ 3) (z : D) : addG lh (.tup (xs.take i ++ [z])) (.tup (xs.drop (i + 1))) = .v (.tup (xs.set i z)) := by
  rw [z_addT, if_pos (le3 (by simp; omega)), ← put_at h z, List.append_assoc]
  rfl
theorem ix_head {lh : LH} {x : D} {xs : List D} : ixG lh (.tup (x :: xs)) (.int 0) = .v x := z_ixT (i := 0) rfl
theorem rowD_cons (a : Int) (r : List Int) : rowD (a :: r) = .tup (.int a :: r.map .int) := rfl
@[simp] theorem n_left {lh : LH} : inG lh (.str "left") (.tup [.str "left", .str "right"]) = .v (.bl true) := by kernel_rfl
@[simp] theorem n_right {lh : LH} : inG lh (.str "right") (.tup [.str "left", .str "right"]) = .v (.bl true) := by kernel_rfl
@[simp] theorem n_take {lh : LH} : inG lh (.str "take") (.tup [.str "left", .str "right"]) = .v (.bl false) := by kernel_rfl
@[simp] theorem n_put {lh : LH} : inG lh (.str "put") (.tup [.str "left", .str "right"]) = .v (.bl false) := by kernel_rfl
@[simp] theorem n_out {lh : LH} : inG lh (.str "out") (.tup [.str "left", .str "right"]) = .v (.bl false) := by kernel_rfl
theorem ne_row0 {lh : LH} (r : List Int) : neG lh (rowD r) (.tup []) = .v (.bl (!r.isEmpty)) := by
  unfold neG
  rw [show fuel = 10 + 2 from rfl, toP_row, show toP lh (10 + 2) (.tup []) = some (.tuple ([].map PyData.int)) from rfl]
  simp only [shaped_row, and_self, if_true]
  cases r <;> rfl
theorem z_ix0 {xs : List D} {i : Nat} {z : D} (h : xs[i]? = some z) : ixG [.lst xs] (.loc 0) (.int (i : Int)) = .v z := by
  unfold ixG asS
  simp [asL, lstAt, ix_nat h]
theorem z_set0 {xs : List D} {i : Nat} (h : i < xs.length) (f : D) : setG [.lst xs] (.loc 0) (.int (i : Int)) f = some [.lst (xs.set i f)] := by
  unfold setG locL
  simp [lstAt, L2.ixN, h]
@[simp] theorem z_put {τ : Tau} {lh : LH} {m mo mi : EM} : sPut m mo mi τ lh = (m τ lh).toS τ fun f lh => (match mo τ lh with
  | .ok d lh => (match mi τ lh with
    | .ok e lh => (match setG lh d e f with
      | some lh => .nx τ lh
      | none => .stuck)
    | _ => .stuck)
  | _ => .stuck) := rfl
end Tb

/-! Types of plain Lean told as data; loops. -/
namespace Tb
open PySem

theorem mapO_map {α β γ : Type} {f : β → Option γ} {g : α → β} {h : α → γ} : ∀ {l : List α}, (∀ a ∈ l, f (g a) = some (h a)) → mapO f (l.map g) = some (l.map h)
  | [], _ => rfl
  | a :: l, H => by
    have ih := mapO_map (f := f) (g := g) (h := h) (l := l) fun b hb => H b (List.mem_cons_of_mem _ hb)
    simp only [List.map_cons, mapO, H a List.mem_cons_self, ih]
structure Enc (α : Type) where
  d : α → D
  p : α → PyData
  k : Nat
  toP : ∀ lh n a, toP lh (n + k) (d a) = some (p a)
  frz : ∀ lh n a, frz lh (n + k) (d a) = some (d a)
  lay : ∀ a, (p a).canLay0 = true
  dep : ∀ a, (p a).depth ≤ k
  eqv : ∀ a b, PyData.eqv (p a) (p b) = true ↔ a = b
  alk : ∀ a b, PySem.W.alike (p a) (p b) = true
namespace Enc
variable {α β γ : Type}
def int : Enc Int where
  d := .int
  p := .int
  k := 1
  toP _ _ _ := rfl
  frz _ _ _ := rfl
  lay _ := by simp [PyData.canLay0]
  dep _ := by simp [PyData.depth]
  eqv a b := by simp [PyData.eqv]
  alk a b := by simp [PySem.W.alike]
def nat : Enc Nat where
  d i := .int (i : Int)
  p i := .int (i : Int)
  k := 1
  toP _ _ _ := rfl
  frz _ _ _ := rfl
  lay _ := by simp [PyData.canLay0]
  dep _ := by simp [PyData.depth]
  eqv a b := by simp only [PyData.eqv, beq_iff_eq]; omega
  alk a b := by simp [PySem.W.alike]
def bool : Enc Bool where
  d := .bl
  p := .bool
  k := 1
  toP _ _ _ := rfl
  frz _ _ _ := rfl
  lay _ := by simp [PyData.canLay0]
  dep _ := by simp [PyData.depth]
  eqv a b := by simp [PyData.eqv]
  alk a b := by simp [PySem.W.alike]
/-- texts of a kind -/
def str (f : α → Str) (h : ∀ a, PyData.strOk (f a) = true) (inj : ∀ a b, f a = f b → a = b) : Enc α where
  d a := .str (f a)
  p a := .str (f a)
  k := 1
  toP _ _ _ := rfl
  frz _ _ _ := rfl
  lay a := by simp [PyData.canLay0, h]
  dep _ := by simp [PyData.depth]
  eqv a b := by
    simp only [PyData.eqv, beq_iff_eq]
    exact ⟨inj a b, fun e => by rw [e]⟩
  alk a b := by simp [PySem.W.alike]
theorem layAll (p : α → PyData) (h : ∀ a, (p a).canLay0 = true) : ∀ l : List α, PyData.canLayAll0 (l.map p) = true
  | [] => by simp [PyData.canLayAll0]
  | a :: l => by simp [PyData.canLayAll0, h, layAll p h l]
theorem depAll (p : α → PyData) (k : Nat) (h : ∀ a, (p a).depth ≤ k) : ∀ l : List α, PyData.depthAll (l.map p) ≤ k
  | [] => by simp [PyData.depthAll]
  | a :: l => by
    have h1 := h a
    have h2 := depAll p k h l
    simp only [List.map_cons, PyData.depthAll]
    omega
theorem eqvAll (p : α → PyData) (h : ∀ a b, PyData.eqv (p a) (p b) = true ↔ a = b) : ∀ l m : List α, PyData.eqvAll (l.map p) (m.map p) = true ↔ l = m
  | [], [] => by simp [PyData.eqvAll]
  | [], _ :: _ => by simp [PyData.eqvAll]
  | _ :: _, [] => by simp [PyData.eqvAll]
  | a :: l, b :: m => by simp [PyData.eqvAll, h, eqvAll p h l m]
theorem alkAll (p : α → PyData) (h : ∀ a b, PySem.W.alike (p a) (p b) = true) : ∀ l m : List α, PySem.W.alikeAll (l.map p) (m.map p) = true
  | [], [] => by simp [PySem.W.alikeAll]
  | [], _ :: _ => by simp [PySem.W.alikeAll]
  | _ :: _, [] => by simp [PySem.W.alikeAll]
  | a :: l, b :: m => by simp [PySem.W.alikeAll, h, alkAll p h l m]
def tup (e : Enc α) : Enc (List α) where
  d l := .tup (l.map e.d)
  p l := .tuple (l.map e.p)
  k := e.k + 1
  toP lh n l := by
    show (match mapO (Tb.toP lh (n + e.k)) (l.map e.d) with
      | some ks => some (PyData.tuple ks)
      | none => none) = _
    rw [mapO_map fun a _ => e.toP lh n a]
  frz lh n l := by
    show (match mapO (Tb.frz lh (n + e.k)) (l.map e.d) with
      | some ks => some (D.tup ks)
      | none => none) = _
    rw [mapO_map fun a _ => e.frz lh n a]
  lay l := by simp only [PyData.canLay0]; exact layAll e.p e.lay l
  dep l := by
    have := depAll e.p e.k e.dep l
    simp only [PyData.depth]
    omega
  eqv l m := by simp only [PyData.eqv]; exact eqvAll e.p e.eqv l m
  alk l m := by simp only [PySem.W.alike]; exact alkAll e.p e.alk l m
def lst (e : Enc α) : Enc (List α) where
  d l := .lst (l.map e.d)
  p l := .list (l.map e.p)
  k := e.k + 1
  toP lh n l := by
    show (match mapO (Tb.toP lh (n + e.k)) (l.map e.d) with
      | some ks => some (PyData.list ks)
      | none => none) = _
    rw [mapO_map fun a _ => e.toP lh n a]
  frz lh n l := by
    show (match mapO (Tb.frz lh (n + e.k)) (l.map e.d) with
      | some ks => some (D.lst ks)
      | none => none) = _
    rw [mapO_map fun a _ => e.frz lh n a]
  lay l := by simp only [PyData.canLay0]; exact layAll e.p e.lay l
  dep l := by
    have := depAll e.p e.k e.dep l
    simp only [PyData.depth]
    omega
  eqv l m := by simp only [PyData.eqv]; exact eqvAll e.p e.eqv l m
  alk l m := by simp only [PySem.W.alike]; exact alkAll e.p e.alk l m
theorem up (e : Enc α) (j : Nat) (lh : LH) (n : Nat) (a : α) : Tb.toP lh (n + (e.k + j)) (e.d a) = some (e.p a) := by
  rw [show n + (e.k + j) = (n + j) + e.k by omega]
  exact e.toP lh _ a
theorem upf (e : Enc α) (j : Nat) (lh : LH) (n : Nat) (a : α) : Tb.frz lh (n + (e.k + j)) (e.d a) = some (e.d a) := by
  rw [show n + (e.k + j) = (n + j) + e.k by omega]
  exact e.frz lh _ a
def pair (e : Enc α) (f : Enc β) : Enc (α × β) where
  d q := .tup [e.d q.1, f.d q.2]
  p q := .tuple [e.p q.1, f.p q.2]
  k := (e.k + f.k) + 1
  toP lh n q := by
    have h1 := up e f.k lh n q.1
    have h2 := up f e.k lh n q.2
    rw [Nat.add_comm f.k] at h2
    show (match mapO (Tb.toP lh (n + (e.k + f.k))) [e.d q.1, f.d q.2] with
      | some ks => some (PyData.tuple ks)
      | none => none) = _
    simp only [mapO, h1, h2]
  frz lh n q := by
    have h1 := upf e f.k lh n q.1
    have h2 := upf f e.k lh n q.2
    rw [Nat.add_comm f.k] at h2
    show (match mapO (Tb.frz lh (n + (e.k + f.k))) [e.d q.1, f.d q.2] with
      | some ks => some (D.tup ks)
      | none => none) = _
    simp only [mapO, h1, h2]
  lay q := by simp [PyData.canLay0, PyData.canLayAll0, e.lay, f.lay]
  dep q := by
    have h1 := e.dep q.1
    have h2 := f.dep q.2
    simp only [PyData.depth, PyData.depthAll]
    omega
  eqv q r := by simp [PyData.eqv, PyData.eqvAll, e.eqv, f.eqv, Prod.ext_iff]
  alk q r := by simp [PySem.W.alike, PySem.W.alikeAll, e.alk, f.alk]
def tri (e : Enc α) (f : Enc β) (g : Enc γ) : Enc (α × β × γ) where
  d q := .tup [e.d q.1, f.d q.2.1, g.d q.2.2]
  p q := .tuple [e.p q.1, f.p q.2.1, g.p q.2.2]
  k := (e.k + f.k + g.k) + 1
  toP lh n q := by
    have h1 := up e (f.k + g.k) lh n q.1
    have h2 := up f (e.k + g.k) lh n q.2.1
    have h3 := up g (e.k + f.k) lh n q.2.2
    rw [show e.k + (f.k + g.k) = e.k + f.k + g.k by omega] at h1
    rw [show f.k + (e.k + g.k) = e.k + f.k + g.k by omega] at h2
    rw [show g.k + (e.k + f.k) = e.k + f.k + g.k by omega] at h3
    show (match mapO (Tb.toP lh (n + (e.k + f.k + g.k))) [e.d q.1, f.d q.2.1, g.d q.2.2] with
      | some ks => some (PyData.tuple ks)
      | none => none) = _
    simp only [mapO, h1, h2, h3]
  frz lh n q := by
    have h1 := upf e (f.k + g.k) lh n q.1
    have h2 := upf f (e.k + g.k) lh n q.2.1
    have h3 := upf g (e.k + f.k) lh n q.2.2
    rw [show e.k + (f.k + g.k) = e.k + f.k + g.k by omega] at h1
    rw [show f.k + (e.k + g.k) = e.k + f.k + g.k by omega] at h2
    rw [show g.k + (e.k + f.k) = e.k + f.k + g.k by omega] at h3
    show (match mapO (Tb.frz lh (n + (e.k + f.k + g.k))) [e.d q.1, f.d q.2.1, g.d q.2.2] with
      | some ks => some (D.tup ks)
      | none => none) = _
    simp only [mapO, h1, h2, h3]
  lay q := by simp [PyData.canLay0, PyData.canLayAll0, e.lay, f.lay, g.lay]
  dep q := by
    have h1 := e.dep q.1
    have h2 := f.dep q.2.1
    have h3 := g.dep q.2.2
    simp only [PyData.depth, PyData.depthAll]
    omega
  eqv q r := by simp [PyData.eqv, PyData.eqvAll, e.eqv, f.eqv, g.eqv, Prod.ext_iff]
  alk q r := by simp [PySem.W.alike, PySem.W.alikeAll, e.alk, f.alk, g.alk]
variable (e : Enc α)
theorem toPf (h : e.k ≤ 12) (lh : LH) (a : α) : Tb.toP lh fuel (e.d a) = some (e.p a) := by
  have := e.toP lh (12 - e.k) a
  rw [Nat.sub_add_cancel h] at this
  exact this
theorem frzf (h : e.k ≤ 12) (lh : LH) (a : α) : Tb.frz lh fuel (e.d a) = some (e.d a) := by
  have := e.frz lh (12 - e.k) a
  rw [Nat.sub_add_cancel h] at this
  exact this
theorem frzAt (lh : LH) (n : Nat) (h : e.k ≤ n) (a : α) : Tb.frz lh n (e.d a) = some (e.d a) := by
  have := e.frz lh (n - e.k) a
  rw [Nat.sub_add_cancel h] at this
  exact this
theorem toPAt (lh : LH) (n : Nat) (h : e.k ≤ n) (a : α) : Tb.toP lh n (e.d a) = some (e.p a) := by
  have := e.toP lh (n - e.k) a
  rw [Nat.sub_add_cancel h] at this
  exact this
theorem shp (h : e.k ≤ 12) (a : α) : SeqAt.shaped (e.p a) = true := by
  unfold SeqAt.shaped
  have := e.dep a
  rw [e.lay]
  simp
  omega
theorem eqvD [DecidableEq α] (a b : α) : PyData.eqv (e.p a) (e.p b) = decide (a = b) := by
  have := e.eqv a b
  by_cases h : a = b
  · rw [decide_eq_true h]; exact this.mpr h
  · rw [decide_eq_false h]
    cases q : PyData.eqv (e.p a) (e.p b) with
    | true => exact absurd (this.mp q) h
    | false => rfl
theorem eq [DecidableEq α] (a b : α) (lh : LH) (h : e.k ≤ 12 := by decide) : eqG lh (e.d a) (e.d b) = .v (.bl (decide (a = b))) := by
  unfold eqG
  rw [e.toPf h, e.toPf h]
  simp only [e.shp h, and_self, if_true, e.eqvD]
theorem ne [DecidableEq α] (a b : α) (lh : LH) (h : e.k ≤ 12 := by decide) : neG lh (e.d a) (e.d b) = .v (.bl (!decide (a = b))) := by
  unfold neG
  rw [e.toPf h, e.toPf h]
  simp only [e.shp h, and_self, if_true, e.eqvD]
theorem toPloc (h : e.k ≤ 11) {lh : LH} {n : Nat} {l : List α} (hn : lh[n]? = some (.lst (l.map e.d))) : Tb.toP lh fuel (.loc n) = some (e.lst.p l) := by
  have h' : lstAt lh n = some (l.map e.d) := by unfold lstAt; rw [hn]
  show (match lstAt lh n with
      | some ds => (match mapO (Tb.toP lh 11) ds with
        | some ks => some (PyData.list ks)
        | none => none)
      | none => none) = _
  rw [h']
  simp only
  rw [mapO_map fun a _ => e.toPAt lh 11 h a]
  rfl
theorem eqLoc [DecidableEq α] {lh : LH} {n : Nat} {l : List α} (hn : lh[n]? = some (.lst (l.map e.d))) (m : List α) (h : e.k ≤ 11 := by decide) : eqG lh (.loc n) (.lst (m.map e.d)) = .v (.bl (decide (l = m))) := by
  have h2 : e.lst.k ≤ 12 := by show e.k + 1 ≤ 12; omega
  unfold eqG
  rw [e.toPloc h hn, show D.lst (m.map e.d) = e.lst.d m from rfl, e.lst.toPf h2]
  simp only [e.lst.shp h2, and_self, if_true, e.lst.eqvD]
theorem neLoc [DecidableEq α] {lh : LH} {n : Nat} {l : List α} (hn : lh[n]? = some (.lst (l.map e.d))) (m : List α) (h : e.k ≤ 11 := by decide) : neG lh (.loc n) (.lst (m.map e.d)) = .v (.bl (!decide (l = m))) := by
  have h2 : e.lst.k ≤ 12 := by show e.k + 1 ≤ 12; omega
  unfold neG
  rw [e.toPloc h hn, show D.lst (m.map e.d) = e.lst.d m from rfl, e.lst.toPf h2]
  simp only [e.lst.shp h2, and_self, if_true, e.lst.eqvD]
theorem inL [DecidableEq α] (a : α) (l : List α) (lh : LH) (ha : ∀ ds, e.d a ≠ .tup ds ∨ True := by intros; right; trivial) (h : e.k ≤ 11 := by decide) : inG lh (e.d a) (.lst (l.map e.d)) = .v (.bl (decide (a ∈ l))) := by
  have h2 : e.lst.k ≤ 12 := by show e.k + 1 ≤ 12; omega
  have e1 := e.lst.toPf h2 lh l
  have e2 := e.toPf (by omega) lh a
  show (match Tb.toP lh fuel (e.d a), Tb.toP lh fuel (.lst (l.map e.d)) with
      | some p, some (.list qs) => if SeqAt.shaped p = true ∧ SeqAt.shaped (.list qs) = true then Ro.v (.bl (qs.any fun z => PyData.eqv z p)) else .no
      | _, _ => .no) = _
  rw [e2, show D.lst (l.map e.d) = e.lst.d l from rfl, e1]
  show (if SeqAt.shaped (e.p a) = true ∧ SeqAt.shaped (e.lst.p l) = true then Ro.v (.bl ((l.map e.p).any fun z => PyData.eqv z (e.p a))) else .no) = _
  rw [if_pos ⟨e.shp (by omega) a, e.lst.shp h2 l⟩]
  congr 2
  rw [List.any_map]
  have : ((fun z => PyData.eqv z (e.p a)) ∘ e.p) = fun b => decide (b = a) := by
    funext b
    exact e.eqvD b a
  rw [this]
  by_cases hm : a ∈ l
  · rw [decide_eq_true hm, List.any_eq_true]
    exact ⟨a, hm, by simp⟩
  · rw [decide_eq_false hm, List.any_eq_false]
    intro b hb
    simp only [decide_eq_true_eq]
    rintro rfl
    exact hm hb
/-- in order -/
def lt (a b : α) : Bool := PySem.W.dataLt (e.p a) (e.p b)
def le (a b : α) : Bool := !e.lt b a
theorem isort_map {α β : Type} (f : α → β) (le : α → α → Bool) (le2 : β → β → Bool) (h : ∀ a b, le2 (f a) (f b) = le a b) : ∀ l : List α, isort le2 (l.map f) = (isort le l).map f := by
  have hi : ∀ (a : α) (l : List α), insS le2 (f a) (l.map f) = (insS le a l).map f := by
    intro a l
    induction l with
    | nil => rfl
    | cons b l ih =>
      simp only [List.map_cons, insS, h]
      by_cases q : le a b = true
      · simp [q]
      · simp [q, ih]
  intro l
  induction l with
  | nil => rfl
  | cons a l ih =>
    simp only [List.map_cons, isort, ih, hi]
theorem sort (l : List α) (lh : LH) (hs : (∀ a, tupNe (e.p a) = true) ∨ ∀ a, othB (e.p a) = true) (hl : l.length ≤ sizeLine) (h : e.k ≤ 11 := by decide) : sortG lh [.lst (l.map e.d)] = .l ((isort e.le l).map e.d) := by
  have h1 : mapO (Tb.toP lh fuel) (l.map e.d) = some (l.map e.p) := mapO_map fun a _ => e.toPf (by omega) lh a
  show (match mapO (Tb.toP lh fuel) (l.map e.d) with
      | some ps => if ((ps.all fun p => ps.all fun q => PySem.W.alike p q) && ((ps.all tupNe || ps.all othB) && (decide ((l.map e.d).length ≤ sizeLine) && ps.all fun p => decide (p.depth ≤ 64)))) = true then Ro.l ((isort leP ((l.map e.d).zip ps)).map (fun x : D × PyData => x.1)) else .no
      | none => .no) = _
  rw [h1]
  have c1 : ((l.map e.p).all fun p => (l.map e.p).all fun q => PySem.W.alike p q) = true := by simp [e.alk]
  have c2 : ((l.map e.p).all tupNe || (l.map e.p).all othB) = true := by
    rcases hs with hs | hs
    · simp [hs]
    · simp [hs]
  have c3 : ((l.map e.p).all fun p => decide (p.depth ≤ 64)) = true := by
    simp
    intro a _
    have := e.dep a
    omega
  simp only [c1, c2, c3, List.length_map, hl, decide_true, Bool.and_self, if_true]
  have z : (l.map e.d).zip (l.map e.p) = l.map fun a => ((e.d a, e.p a) : D × PyData) := by
    rw [List.zip_map']
  rw [z, isort_map (fun a => ((e.d a, e.p a) : D × PyData)) e.le leP (fun a b => rfl), List.map_map]
  rfl
end Enc
/-! ### keys -/
structure KEnc {α : Type} (e : Enc α) where
  key : α → NestedKey
  at_ : ∀ n a, toKey (n + e.k) (e.d a) = some (key a)
  inj : ∀ a b, key a = key b → a = b
namespace KEnc
variable {α β γ : Type}
def int : KEnc Enc.int where
  key i := .num i
  at_ _ _ := rfl
  inj a b h := by injection h
def nat : KEnc Enc.nat where
  key i := .num (i : Int)
  at_ _ _ := rfl
  inj a b h := by
    injection h with h
    omega
theorem inj_all {key : α → NestedKey} (h : ∀ a b, key a = key b → a = b) : ∀ l m : List α, l.map key = m.map key → l = m
  | [], [], _ => rfl
  | [], _ :: _, e => by simp at e
  | _ :: _, [], e => by simp at e
  | a :: l, b :: m, e => by
    simp only [List.map_cons, List.cons.injEq] at e
    rw [h a b e.1, inj_all h l m e.2]
def tup {e : Enc α} (q : KEnc e) : KEnc e.tup where
  key l := .tup (l.map q.key)
  at_ n l := by
    show (match mapO (toKey (n + e.k)) (l.map e.d) with
      | some ks => some (NestedKey.tup ks)
      | none => none) = _
    rw [mapO_map fun a _ => q.at_ n a]
  inj l m h := by
    injection h with h
    exact inj_all q.inj l m h
theorem up {e : Enc α} (q : KEnc e) (j n : Nat) (a : α) : toKey (n + (e.k + j)) (e.d a) = some (q.key a) := by
  rw [show n + (e.k + j) = (n + j) + e.k by omega]
  exact q.at_ _ a
def pair {e : Enc α} {f : Enc β} (q : KEnc e) (r : KEnc f) : KEnc (e.pair f) where
  key x := .tup [q.key x.1, r.key x.2]
  at_ n x := by
    have h1 := up q f.k n x.1
    have h2 := up r e.k n x.2
    rw [Nat.add_comm f.k] at h2
    show (match mapO (toKey (n + (e.k + f.k))) [e.d x.1, f.d x.2] with
      | some ks => some (NestedKey.tup ks)
      | none => none) = _
    simp only [mapO, h1, h2]
  inj a b h := by
    injection h with h
    simp only [List.cons.injEq, and_true] at h
    exact Prod.ext (q.inj _ _ h.1) (r.inj _ _ h.2)
def tri {e : Enc α} {f : Enc β} {g : Enc γ} (q : KEnc e) (r : KEnc f) (s : KEnc g) : KEnc (e.tri f g) where
  key x := .tup [q.key x.1, r.key x.2.1, s.key x.2.2]
  at_ n x := by
    have h1 := up q (f.k + g.k) n x.1
    have h2 := up r (e.k + g.k) n x.2.1
    have h3 := up s (e.k + f.k) n x.2.2
    rw [show e.k + (f.k + g.k) = e.k + f.k + g.k by omega] at h1
    rw [show f.k + (e.k + g.k) = e.k + f.k + g.k by omega] at h2
    rw [show g.k + (e.k + f.k) = e.k + f.k + g.k by omega] at h3
    show (match mapO (toKey (n + (e.k + f.k + g.k))) [e.d x.1, f.d x.2.1, g.d x.2.2] with
      | some ks => some (NestedKey.tup ks)
      | none => none) = _
    simp only [mapO, h1, h2, h3]
  inj a b h := by
    injection h with h
    simp only [List.cons.injEq, and_true] at h
    exact Prod.ext (q.inj _ _ h.1) (Prod.ext (r.inj _ _ h.2.1) (s.inj _ _ h.2.2))
variable {e : Enc α} (q : KEnc e)
theorem at8 (h : e.k ≤ 8) (a : α) : toKey 8 (e.d a) = some (q.key a) := by
  have := q.at_ (8 - e.k) a
  rw [Nat.sub_add_cancel h] at this
  exact this
theorem look [DecidableEq α] (h : e.k ≤ 8) (g : β → D) (a : α) : ∀ l : List (α × β), dLook (q.key a) (l.map fun x => e.d x.1) (l.map fun x => g x.2) = (l.lookup a).map g
  | [] => rfl
  | (b, u) :: l => by
    simp only [List.map_cons, dLook, q.at8 h, List.lookup_cons]
    by_cases c : a = b
    · subst c
      simp
    · have : ¬ (some (q.key b) = some (q.key a)) := fun z => c (q.inj _ _ (Option.some.inj z).symm)
      have c2 : (a == b) = false := by simpa using c
      rw [if_neg this, look h g a l, c2]
end KEnc
/-- a key's value is stored -/
def putK {α β : Type} [DecidableEq α] (a : α) (v : β) : List (α × β) → List (α × β)
  | [] => [(a, v)]
  | (b, u) :: l => if b = a then (b, v) :: l else (b, u) :: putK a v l
theorem KEnc.put {α β : Type} [DecidableEq α] {e : Enc α} (q : KEnc e) (h : e.k ≤ 8) (g : β → D) (a : α) (v : β) : ∀ l : List (α × β), dPut (q.key a) (e.d a) (g v) (l.map fun x => e.d x.1) (l.map fun x => g x.2) = ((putK a v l).map (fun x => e.d x.1), (putK a v l).map fun x => g x.2)
  | [] => rfl
  | (b, u) :: l => by
    have ih := KEnc.put q h g a v l
    simp only [List.map_cons, dPut, q.at8 h, putK]
    by_cases c : b = a
    · subst c
      simp
    · have : ¬ (some (q.key b) = some (q.key a)) := fun z => c (q.inj _ _ (Option.some.inj z))
      rw [if_neg this, if_neg c, ih]
      rfl
theorem putK_new {α β : Type} [DecidableEq α] (a : α) (v : β) : ∀ l : List (α × β), a ∉ l.map (·.1) → putK a v l = l ++ [(a, v)]
  | [], _ => rfl
  | (b, u) :: l, h => by
    simp only [List.map_cons, List.mem_cons, not_or] at h
    rw [putK, if_neg (fun z => h.1 z.symm), putK_new a v l h.2]
    rfl
theorem look_isSome {α β : Type} [DecidableEq α] (a : α) : ∀ l : List (α × β), (l.lookup a).isSome = decide (a ∈ l.map (·.1))
  | [] => by simp
  | (b, u) :: l => by
    rw [List.lookup_cons]
    by_cases c : a = b
    · subst c
      simp
    · have : (a == b) = false := by simpa using c
      rw [this]
      simp only [List.map_cons, List.mem_cons, c, false_or]
      exact look_isSome a l
/-! ### more equations -/
section
variable {τ : Tau} {lh : LH} {al : Bool}
@[simp] theorem z_isi {f : Ty → Option Bool} {m : EM} : eIsi f m τ lh = (m τ lh).bind fun d lh => (match tyD lh d with | some t => (match f t with | some b => .ok (.bl b) lh | none => .stuck) | none => .stuck) := rfl
@[simp] theorem z_fldC {cs : List Str} {f : Str} {m : EM} : eFldC cs f m τ lh = (m τ lh).bind fun d lh => (match insAt lh d with
  | some (_, c, fs) => if cs.contains c = true then (match fs.lookup f with
    | some v => .ok v lh
    | none => .stuck) else .stuck
  | none => .stuck) := rfl
@[simp] theorem z_mt {g : LH → List D → D → Option (List D × D)} {mo m : EM} : eMt g mo m τ lh = (mo τ lh).bind fun d lh => (match locL lh d with
  | some (n, _) => (m τ lh).bind fun e lh => (match lstAt lh n with
    | some xs => (match g lh xs e with
      | some (ys, v) => .ok v (lh.set n (.lst ys))
      | none => .stuck)
    | none => .stuck)
  | none => .stuck) := rfl
@[simp] theorem z_mt0 {g : List D → Option (List D × D)} {mo : EM} : eMt0 g mo τ lh = (mo τ lh).bind fun d lh => (match locL lh d with
  | some (n, xs) => (match g xs with
    | some (ys, v) => .ok v (lh.set n (.lst ys))
    | none => .stuck)
  | none => .stuck) := rfl
@[simp] theorem z_make {c : Str} {n : Nat} {f : FM} {m : AM} : eMake c n f m τ lh = (m τ lh).bind fun ds lh => if ds.length + 1 = n then (match f (.loc lh.length :: ds) (lh ++ [.ins c []]) with
  | .ok .non lh' => .ok (.loc lh.length) lh'
  | .exc c lh => .exc c lh
  | _ => .stuck) else .stuck := rfl
@[simp] theorem z_meth {ms : List (Str × FM)} {mn : Str} {n : Nat} {mo : EM} {m : AM} : eMethM ms mn n mo m τ lh = (match mo τ lh with
  | .ok d lh => (match insAt lh d with
    | some (_, c, fs) => if (fs.lookup mn).isNone = true then (match ms.lookup c with
      | some f => (m τ lh).bind fun ds lh => if ds.length + 1 = n then f (d :: ds) lh else .stuck
      | none => .stuck) else .stuck
    | none => .stuck)
  | _ => .stuck) := rfl
@[simp] theorem z_tbl {m : EM} : tBl m τ lh = (m τ lh).bind fun d lh => (match d with | .bl b => .ok b lh | _ => .stuck) := rfl
@[simp] theorem z_chain {g g' : LH → D → D → Ro} {a b c : EM} : eChain g g' a b c τ lh = (a τ lh).bind fun x lh => (b τ lh).bind fun y lh => (match g lh x y with
  | .v (.bl true) => (c τ lh).bind fun z lh => (g' lh y z).res false lh
  | .v (.bl false) => .ok (.bl false) lh
  | _ => .stuck) := rfl
@[simp] theorem z_raise {x : Str} : sRaise x τ lh = .exc x τ lh := rfl
@[simp] theorem z_sq3 {c : Str} {f : Tau → LH → SRes} : (SRes.exc c τ lh).seq f = .exc c τ lh := rfl
@[simp] theorem z_toSx {α : Type} {c : Str} {k : α → LH → SRes} : (Res.exc c lh : Res α).toS τ k = .exc c τ lh := rfl
theorem insH {n : Nat} {c : Str} {fs : List (Str × D)} (h : lh[n]? = some (.ins c fs)) : insAt lh (.loc n) = some (n, c, fs) := by
  unfold insAt
  simp only [h]
@[simp] theorem ins0 {c : Str} {fs : List (Str × D)} {l : LH} : insAt (.ins c fs :: l) (.loc 0) = some (0, c, fs) := rfl
@[simp] theorem ins1 {o : LO} {c : Str} {fs : List (Str × D)} {l : LH} : insAt (o :: .ins c fs :: l) (.loc 1) = some (1, c, fs) := rfl
theorem beqI (a b : Int) : (a == b) = decide (a = b) := by by_cases h : a = b <;> simp [h]
end
/-! ### loops -/
theorem forL_cons {g : GB} {b : SM} {d : D} {ds : List D} {τ : Tau} {lh : LH} : sForL g b (d :: ds) τ lh = stepG g b d τ lh (sForL g b ds) := rfl
theorem forL_nil {g : GB} {b : SM} {τ : Tau} {lh : LH} : sForL g b [] τ lh = .nx τ lh := rfl
theorem forL_inv {g : GB} {b : SM} (I : Tau → LH → Prop) : ∀ {ds : List D}, (∀ d ∈ ds, ∀ τ lh, I τ lh → ∃ bs, g lh d = some bs ∧ ∃ τ' lh', b (setAll τ (bs.map (·.1)) (bs.map (·.2))) lh = .nx τ' lh' ∧ I τ' lh') → ∀ {τ : Tau} {lh : LH}, I τ lh → ∃ τ' lh', sForL g b ds τ lh = .nx τ' lh' ∧ I τ' lh'
  | [], _, τ, lh, h => ⟨τ, lh, rfl, h⟩
  | d :: ds, H, τ, lh, h => by
    obtain ⟨bs, h1, τ1, lh1, h2, h3⟩ := H d List.mem_cons_self τ lh h
    obtain ⟨τ2, lh2, h4, h5⟩ := forL_inv I (ds := ds) (fun d hd => H d (List.mem_cons_of_mem _ hd)) h3
    refine ⟨τ2, lh2, ?_, h5⟩
    rw [forL_cons]
    unfold stepG
    rw [h1]
    simp only [h2]
    exact h4
/-- the list of a comprehension, item by item -/
theorem lcL_map {α β : Type} {f : α → D} {f2 : β → D} {g : GB} {t : TM} {e : EM} {vs : List Nat} {τ : Tau} {lh : LH} (F : α → Option β) : ∀ {l : List α},
    (∀ a ∈ l, ∃ bs, g lh (f a) = some bs ∧ bs.all (fun p => vs.contains p.1) = true ∧ ((F a = none ∧ t (setAll τ (bs.map (·.1)) (bs.map (·.2))) lh = .ok false lh) ∨ ∃ y, F a = some y ∧ t (setAll τ (bs.map (·.1)) (bs.map (·.2))) lh = .ok true lh ∧ e (setAll τ (bs.map (·.1)) (bs.map (·.2))) lh = .ok (f2 y) lh)) →
    lcL g t e vs τ (l.map f) lh = some ((l.filterMap F).map f2, lh)
  | [], _ => rfl
  | a :: l, H => by
    have ih := lcL_map F (f := f) (f2 := f2) (g := g) (t := t) (e := e) (vs := vs) (τ := τ) (lh := lh) (l := l) fun b hb => H b (List.mem_cons_of_mem _ hb)
    obtain ⟨bs, h1, h2, h3⟩ := H a List.mem_cons_self
    show stepL g t e vs τ (f a) lh (lcL g t e vs τ (l.map f)) = _
    unfold stepL
    rw [h1]
    simp only [h2, if_true]
    rcases h3 with ⟨h3, h4⟩ | ⟨y, h3, h4, h5⟩
    · rw [h4]
      simp only [ih, List.filterMap_cons, h3]
    · rw [h4]
      simp only [h5, ih, List.filterMap_cons, h3, List.map_cons]
end Tb

/-! Names apart. -/
namespace Tb
open PySem
@[simp] theorem ne_shows_stand : (("shows" : Str) = ("stand" : Str)) = False := eq_false (by decide +kernel)
@[simp] theorem bq_shows_stand : (("shows" : Str) == ("stand" : Str)) = false := by decide +kernel
@[simp] theorem ne_shows_gone : (("shows" : Str) = ("gone" : Str)) = False := eq_false (by decide +kernel)
@[simp] theorem bq_shows_gone : (("shows" : Str) == ("gone" : Str)) = false := by decide +kernel
@[simp] theorem ne_shows_place : (("shows" : Str) = ("place" : Str)) = False := eq_false (by decide +kernel)
@[simp] theorem bq_shows_place : (("shows" : Str) == ("place" : Str)) = false := by decide +kernel
@[simp] theorem ne_shows_deeds : (("shows" : Str) = ("deeds" : Str)) = False := eq_false (by decide +kernel)
@[simp] theorem bq_shows_deeds : (("shows" : Str) == ("deeds" : Str)) = false := by decide +kernel
@[simp] theorem ne_shows_heights : (("shows" : Str) = ("heights" : Str)) = False := eq_false (by decide +kernel)
@[simp] theorem bq_shows_heights : (("shows" : Str) == ("heights" : Str)) = false := by decide +kernel
@[simp] theorem ne_shows_lines : (("shows" : Str) = ("lines" : Str)) = False := eq_false (by decide +kernel)
@[simp] theorem bq_shows_lines : (("shows" : Str) == ("lines" : Str)) = false := by decide +kernel
@[simp] theorem ne_shows_here : (("shows" : Str) = ("here" : Str)) = False := eq_false (by decide +kernel)
@[simp] theorem bq_shows_here : (("shows" : Str) == ("here" : Str)) = false := by decide +kernel
@[simp] theorem ne_shows_left : (("shows" : Str) = ("left" : Str)) = False := eq_false (by decide +kernel)
@[simp] theorem bq_shows_left : (("shows" : Str) == ("left" : Str)) = false := by decide +kernel
@[simp] theorem ne_shows_do : (("shows" : Str) = ("do" : Str)) = False := eq_false (by decide +kernel)
@[simp] theorem bq_shows_do : (("shows" : Str) == ("do" : Str)) = false := by decide +kernel
@[simp] theorem ne_shows_now : (("shows" : Str) = ("now" : Str)) = False := eq_false (by decide +kernel)
@[simp] theorem bq_shows_now : (("shows" : Str) == ("now" : Str)) = false := by decide +kernel
@[simp] theorem ne_shows_away : (("shows" : Str) = ("away" : Str)) = False := eq_false (by decide +kernel)
@[simp] theorem bq_shows_away : (("shows" : Str) == ("away" : Str)) = false := by decide +kernel
@[simp] theorem ne_shows_done : (("shows" : Str) = ("done" : Str)) = False := eq_false (by decide +kernel)
@[simp] theorem bq_shows_done : (("shows" : Str) == ("done" : Str)) = false := by decide +kernel
@[simp] theorem ne_shows_tale : (("shows" : Str) = ("tale" : Str)) = False := eq_false (by decide +kernel)
@[simp] theorem bq_shows_tale : (("shows" : Str) == ("tale" : Str)) = false := by decide +kernel
@[simp] theorem ne_shows_Came : (("shows" : Str) = ("Came" : Str)) = False := eq_false (by decide +kernel)
@[simp] theorem bq_shows_Came : (("shows" : Str) == ("Came" : Str)) = false := by decide +kernel
@[simp] theorem ne_shows_Barred : (("shows" : Str) = ("Barred" : Str)) = False := eq_false (by decide +kernel)
@[simp] theorem bq_shows_Barred : (("shows" : Str) == ("Barred" : Str)) = false := by decide +kernel
@[simp] theorem ne_shows_Within : (("shows" : Str) = ("Within" : Str)) = False := eq_false (by decide +kernel)
@[simp] theorem bq_shows_Within : (("shows" : Str) == ("Within" : Str)) = false := by decide +kernel
@[simp] theorem ne_shows_Beyond : (("shows" : Str) = ("Beyond" : Str)) = False := eq_false (by decide +kernel)
@[simp] theorem bq_shows_Beyond : (("shows" : Str) == ("Beyond" : Str)) = false := by decide +kernel
@[simp] theorem ne_shows_Right : (("shows" : Str) = ("Right" : Str)) = False := eq_false (by decide +kernel)
@[simp] theorem bq_shows_Right : (("shows" : Str) == ("Right" : Str)) = false := by decide +kernel
@[simp] theorem ne_shows_Wrong : (("shows" : Str) = ("Wrong" : Str)) = False := eq_false (by decide +kernel)
@[simp] theorem bq_shows_Wrong : (("shows" : Str) == ("Wrong" : Str)) = false := by decide +kernel
@[simp] theorem ne_shows_Yard : (("shows" : Str) = ("Yard" : Str)) = False := eq_false (by decide +kernel)
@[simp] theorem bq_shows_Yard : (("shows" : Str) == ("Yard" : Str)) = false := by decide +kernel
@[simp] theorem ne_stand_shows : (("stand" : Str) = ("shows" : Str)) = False := eq_false (by decide +kernel)
@[simp] theorem bq_stand_shows : (("stand" : Str) == ("shows" : Str)) = false := by decide +kernel
@[simp] theorem ne_stand_gone : (("stand" : Str) = ("gone" : Str)) = False := eq_false (by decide +kernel)
@[simp] theorem bq_stand_gone : (("stand" : Str) == ("gone" : Str)) = false := by decide +kernel
@[simp] theorem ne_stand_place : (("stand" : Str) = ("place" : Str)) = False := eq_false (by decide +kernel)
@[simp] theorem bq_stand_place : (("stand" : Str) == ("place" : Str)) = false := by decide +kernel
@[simp] theorem ne_stand_deeds : (("stand" : Str) = ("deeds" : Str)) = False := eq_false (by decide +kernel)
@[simp] theorem bq_stand_deeds : (("stand" : Str) == ("deeds" : Str)) = false := by decide +kernel
@[simp] theorem ne_stand_heights : (("stand" : Str) = ("heights" : Str)) = False := eq_false (by decide +kernel)
@[simp] theorem bq_stand_heights : (("stand" : Str) == ("heights" : Str)) = false := by decide +kernel
@[simp] theorem ne_stand_lines : (("stand" : Str) = ("lines" : Str)) = False := eq_false (by decide +kernel)
@[simp] theorem bq_stand_lines : (("stand" : Str) == ("lines" : Str)) = false := by decide +kernel
@[simp] theorem ne_stand_here : (("stand" : Str) = ("here" : Str)) = False := eq_false (by decide +kernel)
@[simp] theorem bq_stand_here : (("stand" : Str) == ("here" : Str)) = false := by decide +kernel
@[simp] theorem ne_stand_left : (("stand" : Str) = ("left" : Str)) = False := eq_false (by decide +kernel)
@[simp] theorem bq_stand_left : (("stand" : Str) == ("left" : Str)) = false := by decide +kernel
@[simp] theorem ne_stand_do : (("stand" : Str) = ("do" : Str)) = False := eq_false (by decide +kernel)
@[simp] theorem bq_stand_do : (("stand" : Str) == ("do" : Str)) = false := by decide +kernel
@[simp] theorem ne_stand_now : (("stand" : Str) = ("now" : Str)) = False := eq_false (by decide +kernel)
@[simp] theorem bq_stand_now : (("stand" : Str) == ("now" : Str)) = false := by decide +kernel
@[simp] theorem ne_stand_away : (("stand" : Str) = ("away" : Str)) = False := eq_false (by decide +kernel)
@[simp] theorem bq_stand_away : (("stand" : Str) == ("away" : Str)) = false := by decide +kernel
@[simp] theorem ne_stand_done : (("stand" : Str) = ("done" : Str)) = False := eq_false (by decide +kernel)
@[simp] theorem bq_stand_done : (("stand" : Str) == ("done" : Str)) = false := by decide +kernel
@[simp] theorem ne_stand_tale : (("stand" : Str) = ("tale" : Str)) = False := eq_false (by decide +kernel)
@[simp] theorem bq_stand_tale : (("stand" : Str) == ("tale" : Str)) = false := by decide +kernel
@[simp] theorem ne_stand_Came : (("stand" : Str) = ("Came" : Str)) = False := eq_false (by decide +kernel)
@[simp] theorem bq_stand_Came : (("stand" : Str) == ("Came" : Str)) = false := by decide +kernel
@[simp] theorem ne_stand_Barred : (("stand" : Str) = ("Barred" : Str)) = False := eq_false (by decide +kernel)
@[simp] theorem bq_stand_Barred : (("stand" : Str) == ("Barred" : Str)) = false := by decide +kernel
@[simp] theorem ne_stand_Within : (("stand" : Str) = ("Within" : Str)) = False := eq_false (by decide +kernel)
@[simp] theorem bq_stand_Within : (("stand" : Str) == ("Within" : Str)) = false := by decide +kernel
@[simp] theorem ne_stand_Beyond : (("stand" : Str) = ("Beyond" : Str)) = False := eq_false (by decide +kernel)
@[simp] theorem bq_stand_Beyond : (("stand" : Str) == ("Beyond" : Str)) = false := by decide +kernel
@[simp] theorem ne_stand_Right : (("stand" : Str) = ("Right" : Str)) = False := eq_false (by decide +kernel)
@[simp] theorem bq_stand_Right : (("stand" : Str) == ("Right" : Str)) = false := by decide +kernel
@[simp] theorem ne_stand_Wrong : (("stand" : Str) = ("Wrong" : Str)) = False := eq_false (by decide +kernel)
@[simp] theorem bq_stand_Wrong : (("stand" : Str) == ("Wrong" : Str)) = false := by decide +kernel
@[simp] theorem ne_stand_Yard : (("stand" : Str) = ("Yard" : Str)) = False := eq_false (by decide +kernel)
@[simp] theorem bq_stand_Yard : (("stand" : Str) == ("Yard" : Str)) = false := by decide +kernel
@[simp] theorem ne_gone_shows : (("gone" : Str) = ("shows" : Str)) = False := eq_false (by decide +kernel)
@[simp] theorem bq_gone_shows : (("gone" : Str) == ("shows" : Str)) = false := by decide +kernel
@[simp] theorem ne_gone_stand : (("gone" : Str) = ("stand" : Str)) = False := eq_false (by decide +kernel)
@[simp] theorem bq_gone_stand : (("gone" : Str) == ("stand" : Str)) = false := by decide +kernel
@[simp] theorem ne_gone_place : (("gone" : Str) = ("place" : Str)) = False := eq_false (by decide +kernel)
@[simp] theorem bq_gone_place : (("gone" : Str) == ("place" : Str)) = false := by decide +kernel
@[simp] theorem ne_gone_deeds : (("gone" : Str) = ("deeds" : Str)) = False := eq_false (by decide +kernel)
@[simp] theorem bq_gone_deeds : (("gone" : Str) == ("deeds" : Str)) = false := by decide +kernel
@[simp] theorem ne_gone_heights : (("gone" : Str) = ("heights" : Str)) = False := eq_false (by decide +kernel)
@[simp] theorem bq_gone_heights : (("gone" : Str) == ("heights" : Str)) = false := by decide +kernel
@[simp] theorem ne_gone_lines : (("gone" : Str) = ("lines" : Str)) = False := eq_false (by decide +kernel)
@[simp] theorem bq_gone_lines : (("gone" : Str) == ("lines" : Str)) = false := by decide +kernel
@[simp] theorem ne_gone_here : (("gone" : Str) = ("here" : Str)) = False := eq_false (by decide +kernel)
@[simp] theorem bq_gone_here : (("gone" : Str) == ("here" : Str)) = false := by decide +kernel
@[simp] theorem ne_gone_left : (("gone" : Str) = ("left" : Str)) = False := eq_false (by decide +kernel)
@[simp] theorem bq_gone_left : (("gone" : Str) == ("left" : Str)) = false := by decide +kernel
@[simp] theorem ne_gone_do : (("gone" : Str) = ("do" : Str)) = False := eq_false (by decide +kernel)
@[simp] theorem bq_gone_do : (("gone" : Str) == ("do" : Str)) = false := by decide +kernel
@[simp] theorem ne_gone_now : (("gone" : Str) = ("now" : Str)) = False := eq_false (by decide +kernel)
@[simp] theorem bq_gone_now : (("gone" : Str) == ("now" : Str)) = false := by decide +kernel
@[simp] theorem ne_gone_away : (("gone" : Str) = ("away" : Str)) = False := eq_false (by decide +kernel)
@[simp] theorem bq_gone_away : (("gone" : Str) == ("away" : Str)) = false := by decide +kernel
@[simp] theorem ne_gone_done : (("gone" : Str) = ("done" : Str)) = False := eq_false (by decide +kernel)
@[simp] theorem bq_gone_done : (("gone" : Str) == ("done" : Str)) = false := by decide +kernel
@[simp] theorem ne_gone_tale : (("gone" : Str) = ("tale" : Str)) = False := eq_false (by decide +kernel)
@[simp] theorem bq_gone_tale : (("gone" : Str) == ("tale" : Str)) = false := by decide +kernel
@[simp] theorem ne_gone_Came : (("gone" : Str) = ("Came" : Str)) = False := eq_false (by decide +kernel)
@[simp] theorem bq_gone_Came : (("gone" : Str) == ("Came" : Str)) = false := by decide +kernel
@[simp] theorem ne_gone_Barred : (("gone" : Str) = ("Barred" : Str)) = False := eq_false (by decide +kernel)
@[simp] theorem bq_gone_Barred : (("gone" : Str) == ("Barred" : Str)) = false := by decide +kernel
@[simp] theorem ne_gone_Within : (("gone" : Str) = ("Within" : Str)) = False := eq_false (by decide +kernel)
@[simp] theorem bq_gone_Within : (("gone" : Str) == ("Within" : Str)) = false := by decide +kernel
@[simp] theorem ne_gone_Beyond : (("gone" : Str) = ("Beyond" : Str)) = False := eq_false (by decide +kernel)
@[simp] theorem bq_gone_Beyond : (("gone" : Str) == ("Beyond" : Str)) = false := by decide +kernel
@[simp] theorem ne_gone_Right : (("gone" : Str) = ("Right" : Str)) = False := eq_false (by decide +kernel)
@[simp] theorem bq_gone_Right : (("gone" : Str) == ("Right" : Str)) = false := by decide +kernel
@[simp] theorem ne_gone_Wrong : (("gone" : Str) = ("Wrong" : Str)) = False := eq_false (by decide +kernel)
@[simp] theorem bq_gone_Wrong : (("gone" : Str) == ("Wrong" : Str)) = false := by decide +kernel
@[simp] theorem ne_gone_Yard : (("gone" : Str) = ("Yard" : Str)) = False := eq_false (by decide +kernel)
@[simp] theorem bq_gone_Yard : (("gone" : Str) == ("Yard" : Str)) = false := by decide +kernel
@[simp] theorem ne_place_shows : (("place" : Str) = ("shows" : Str)) = False := eq_false (by decide +kernel)
@[simp] theorem bq_place_shows : (("place" : Str) == ("shows" : Str)) = false := by decide +kernel
@[simp] theorem ne_place_stand : (("place" : Str) = ("stand" : Str)) = False := eq_false (by decide +kernel)
@[simp] theorem bq_place_stand : (("place" : Str) == ("stand" : Str)) = false := by decide +kernel
@[simp] theorem ne_place_gone : (("place" : Str) = ("gone" : Str)) = False := eq_false (by decide +kernel)
@[simp] theorem bq_place_gone : (("place" : Str) == ("gone" : Str)) = false := by decide +kernel
@[simp] theorem ne_place_deeds : (("place" : Str) = ("deeds" : Str)) = False := eq_false (by decide +kernel)
@[simp] theorem bq_place_deeds : (("place" : Str) == ("deeds" : Str)) = false := by decide +kernel
@[simp] theorem ne_place_heights : (("place" : Str) = ("heights" : Str)) = False := eq_false (by decide +kernel)
@[simp] theorem bq_place_heights : (("place" : Str) == ("heights" : Str)) = false := by decide +kernel
@[simp] theorem ne_place_lines : (("place" : Str) = ("lines" : Str)) = False := eq_false (by decide +kernel)
@[simp] theorem bq_place_lines : (("place" : Str) == ("lines" : Str)) = false := by decide +kernel
@[simp] theorem ne_place_here : (("place" : Str) = ("here" : Str)) = False := eq_false (by decide +kernel)
@[simp] theorem bq_place_here : (("place" : Str) == ("here" : Str)) = false := by decide +kernel
@[simp] theorem ne_place_left : (("place" : Str) = ("left" : Str)) = False := eq_false (by decide +kernel)
@[simp] theorem bq_place_left : (("place" : Str) == ("left" : Str)) = false := by decide +kernel
@[simp] theorem ne_place_do : (("place" : Str) = ("do" : Str)) = False := eq_false (by decide +kernel)
@[simp] theorem bq_place_do : (("place" : Str) == ("do" : Str)) = false := by decide +kernel
@[simp] theorem ne_place_now : (("place" : Str) = ("now" : Str)) = False := eq_false (by decide +kernel)
@[simp] theorem bq_place_now : (("place" : Str) == ("now" : Str)) = false := by decide +kernel
@[simp] theorem ne_place_away : (("place" : Str) = ("away" : Str)) = False := eq_false (by decide +kernel)
@[simp] theorem bq_place_away : (("place" : Str) == ("away" : Str)) = false := by decide +kernel
@[simp] theorem ne_place_done : (("place" : Str) = ("done" : Str)) = False := eq_false (by decide +kernel)
@[simp] theorem bq_place_done : (("place" : Str) == ("done" : Str)) = false := by decide +kernel
@[simp] theorem ne_place_tale : (("place" : Str) = ("tale" : Str)) = False := eq_false (by decide +kernel)
@[simp] theorem bq_place_tale : (("place" : Str) == ("tale" : Str)) = false := by decide +kernel
@[simp] theorem ne_place_Came : (("place" : Str) = ("Came" : Str)) = False := eq_false (by decide +kernel)
@[simp] theorem bq_place_Came : (("place" : Str) == ("Came" : Str)) = false := by decide +kernel
@[simp] theorem ne_place_Barred : (("place" : Str) = ("Barred" : Str)) = False := eq_false (by decide +kernel)
@[simp] theorem bq_place_Barred : (("place" : Str) == ("Barred" : Str)) = false := by decide +kernel
@[simp] theorem ne_place_Within : (("place" : Str) = ("Within" : Str)) = False := eq_false (by decide +kernel)
@[simp] theorem bq_place_Within : (("place" : Str) == ("Within" : Str)) = false := by decide +kernel
@[simp] theorem ne_place_Beyond : (("place" : Str) = ("Beyond" : Str)) = False := eq_false (by decide +kernel)
@[simp] theorem bq_place_Beyond : (("place" : Str) == ("Beyond" : Str)) = false := by decide +kernel
@[simp] theorem ne_place_Right : (("place" : Str) = ("Right" : Str)) = False := eq_false (by decide +kernel)
@[simp] theorem bq_place_Right : (("place" : Str) == ("Right" : Str)) = false := by decide +kernel
@[simp] theorem ne_place_Wrong : (("place" : Str) = ("Wrong" : Str)) = False := eq_false (by decide +kernel)
@[simp] theorem bq_place_Wrong : (("place" : Str) == ("Wrong" : Str)) = false := by decide +kernel
@[simp] theorem ne_place_Yard : (("place" : Str) = ("Yard" : Str)) = False := eq_false (by decide +kernel)
@[simp] theorem bq_place_Yard : (("place" : Str) == ("Yard" : Str)) = false := by decide +kernel
@[simp] theorem ne_deeds_shows : (("deeds" : Str) = ("shows" : Str)) = False := eq_false (by decide +kernel)
@[simp] theorem bq_deeds_shows : (("deeds" : Str) == ("shows" : Str)) = false := by decide +kernel
@[simp] theorem ne_deeds_stand : (("deeds" : Str) = ("stand" : Str)) = False := eq_false (by decide +kernel)
@[simp] theorem bq_deeds_stand : (("deeds" : Str) == ("stand" : Str)) = false := by decide +kernel
@[simp] theorem ne_deeds_gone : (("deeds" : Str) = ("gone" : Str)) = False := eq_false (by decide +kernel)
@[simp] theorem bq_deeds_gone : (("deeds" : Str) == ("gone" : Str)) = false := by decide +kernel
@[simp] theorem ne_deeds_place : (("deeds" : Str) = ("place" : Str)) = False := eq_false (by decide +kernel)
@[simp] theorem bq_deeds_place : (("deeds" : Str) == ("place" : Str)) = false := by decide +kernel
@[simp] theorem ne_deeds_heights : (("deeds" : Str) = ("heights" : Str)) = False := eq_false (by decide +kernel)
@[simp] theorem bq_deeds_heights : (("deeds" : Str) == ("heights" : Str)) = false := by decide +kernel
@[simp] theorem ne_deeds_lines : (("deeds" : Str) = ("lines" : Str)) = False := eq_false (by decide +kernel)
@[simp] theorem bq_deeds_lines : (("deeds" : Str) == ("lines" : Str)) = false := by decide +kernel
@[simp] theorem ne_deeds_here : (("deeds" : Str) = ("here" : Str)) = False := eq_false (by decide +kernel)
@[simp] theorem bq_deeds_here : (("deeds" : Str) == ("here" : Str)) = false := by decide +kernel
@[simp] theorem ne_deeds_left : (("deeds" : Str) = ("left" : Str)) = False := eq_false (by decide +kernel)
@[simp] theorem bq_deeds_left : (("deeds" : Str) == ("left" : Str)) = false := by decide +kernel
@[simp] theorem ne_deeds_do : (("deeds" : Str) = ("do" : Str)) = False := eq_false (by decide +kernel)
@[simp] theorem bq_deeds_do : (("deeds" : Str) == ("do" : Str)) = false := by decide +kernel
@[simp] theorem ne_deeds_now : (("deeds" : Str) = ("now" : Str)) = False := eq_false (by decide +kernel)
@[simp] theorem bq_deeds_now : (("deeds" : Str) == ("now" : Str)) = false := by decide +kernel
@[simp] theorem ne_deeds_away : (("deeds" : Str) = ("away" : Str)) = False := eq_false (by decide +kernel)
@[simp] theorem bq_deeds_away : (("deeds" : Str) == ("away" : Str)) = false := by decide +kernel
@[simp] theorem ne_deeds_done : (("deeds" : Str) = ("done" : Str)) = False := eq_false (by decide +kernel)
@[simp] theorem bq_deeds_done : (("deeds" : Str) == ("done" : Str)) = false := by decide +kernel
@[simp] theorem ne_deeds_tale : (("deeds" : Str) = ("tale" : Str)) = False := eq_false (by decide +kernel)
@[simp] theorem bq_deeds_tale : (("deeds" : Str) == ("tale" : Str)) = false := by decide +kernel
@[simp] theorem ne_deeds_Came : (("deeds" : Str) = ("Came" : Str)) = False := eq_false (by decide +kernel)
@[simp] theorem bq_deeds_Came : (("deeds" : Str) == ("Came" : Str)) = false := by decide +kernel
@[simp] theorem ne_deeds_Barred : (("deeds" : Str) = ("Barred" : Str)) = False := eq_false (by decide +kernel)
@[simp] theorem bq_deeds_Barred : (("deeds" : Str) == ("Barred" : Str)) = false := by decide +kernel
@[simp] theorem ne_deeds_Within : (("deeds" : Str) = ("Within" : Str)) = False := eq_false (by decide +kernel)
@[simp] theorem bq_deeds_Within : (("deeds" : Str) == ("Within" : Str)) = false := by decide +kernel
@[simp] theorem ne_deeds_Beyond : (("deeds" : Str) = ("Beyond" : Str)) = False := eq_false (by decide +kernel)
@[simp] theorem bq_deeds_Beyond : (("deeds" : Str) == ("Beyond" : Str)) = false := by decide +kernel
@[simp] theorem ne_deeds_Right : (("deeds" : Str) = ("Right" : Str)) = False := eq_false (by decide +kernel)
@[simp] theorem bq_deeds_Right : (("deeds" : Str) == ("Right" : Str)) = false := by decide +kernel
@[simp] theorem ne_deeds_Wrong : (("deeds" : Str) = ("Wrong" : Str)) = False := eq_false (by decide +kernel)
@[simp] theorem bq_deeds_Wrong : (("deeds" : Str) == ("Wrong" : Str)) = false := by decide +kernel
@[simp] theorem ne_deeds_Yard : (("deeds" : Str) = ("Yard" : Str)) = False := eq_false (by decide +kernel)
@[simp] theorem bq_deeds_Yard : (("deeds" : Str) == ("Yard" : Str)) = false := by decide +kernel
@[simp] theorem ne_heights_shows : (("heights" : Str) = ("shows" : Str)) = False := eq_false (by decide +kernel)
@[simp] theorem bq_heights_shows : (("heights" : Str) == ("shows" : Str)) = false := by decide +kernel
@[simp] theorem ne_heights_stand : (("heights" : Str) = ("stand" : Str)) = False := eq_false (by decide +kernel)
@[simp] theorem bq_heights_stand : (("heights" : Str) == ("stand" : Str)) = false := by decide +kernel
@[simp] theorem ne_heights_gone : (("heights" : Str) = ("gone" : Str)) = False := eq_false (by decide +kernel)
@[simp] theorem bq_heights_gone : (("heights" : Str) == ("gone" : Str)) = false := by decide +kernel
@[simp] theorem ne_heights_place : (("heights" : Str) = ("place" : Str)) = False := eq_false (by decide +kernel)
@[simp] theorem bq_heights_place : (("heights" : Str) == ("place" : Str)) = false := by decide +kernel
@[simp] theorem ne_heights_deeds : (("heights" : Str) = ("deeds" : Str)) = False := eq_false (by decide +kernel)
@[simp] theorem bq_heights_deeds : (("heights" : Str) == ("deeds" : Str)) = false := by decide +kernel
@[simp] theorem ne_heights_lines : (("heights" : Str) = ("lines" : Str)) = False := eq_false (by decide +kernel)
@[simp] theorem bq_heights_lines : (("heights" : Str) == ("lines" : Str)) = false := by decide +kernel
@[simp] theorem ne_heights_here : (("heights" : Str) = ("here" : Str)) = False := eq_false (by decide +kernel)
@[simp] theorem bq_heights_here : (("heights" : Str) == ("here" : Str)) = false := by decide +kernel
@[simp] theorem ne_heights_left : (("heights" : Str) = ("left" : Str)) = False := eq_false (by decide +kernel)
@[simp] theorem bq_heights_left : (("heights" : Str) == ("left" : Str)) = false := by decide +kernel
@[simp] theorem ne_heights_do : (("heights" : Str) = ("do" : Str)) = False := eq_false (by decide +kernel)
@[simp] theorem bq_heights_do : (("heights" : Str) == ("do" : Str)) = false := by decide +kernel
@[simp] theorem ne_heights_now : (("heights" : Str) = ("now" : Str)) = False := eq_false (by decide +kernel)
@[simp] theorem bq_heights_now : (("heights" : Str) == ("now" : Str)) = false := by decide +kernel
@[simp] theorem ne_heights_away : (("heights" : Str) = ("away" : Str)) = False := eq_false (by decide +kernel)
@[simp] theorem bq_heights_away : (("heights" : Str) == ("away" : Str)) = false := by decide +kernel
@[simp] theorem ne_heights_done : (("heights" : Str) = ("done" : Str)) = False := eq_false (by decide +kernel)
@[simp] theorem bq_heights_done : (("heights" : Str) == ("done" : Str)) = false := by decide +kernel
@[simp] theorem ne_heights_tale : (("heights" : Str) = ("tale" : Str)) = False := eq_false (by decide +kernel)
@[simp] theorem bq_heights_tale : (("heights" : Str) == ("tale" : Str)) = false := by decide +kernel
@[simp] theorem ne_heights_Came : (("heights" : Str) = ("Came" : Str)) = False := eq_false (by decide +kernel)
@[simp] theorem bq_heights_Came : (("heights" : Str) == ("Came" : Str)) = false := by decide +kernel
@[simp] theorem ne_heights_Barred : (("heights" : Str) = ("Barred" : Str)) = False := eq_false (by decide +kernel)
@[simp] theorem bq_heights_Barred : (("heights" : Str) == ("Barred" : Str)) = false := by decide +kernel
@[simp] theorem ne_heights_Within : (("heights" : Str) = ("Within" : Str)) = False := eq_false (by decide +kernel)
@[simp] theorem bq_heights_Within : (("heights" : Str) == ("Within" : Str)) = false := by decide +kernel
@[simp] theorem ne_heights_Beyond : (("heights" : Str) = ("Beyond" : Str)) = False := eq_false (by decide +kernel)
@[simp] theorem bq_heights_Beyond : (("heights" : Str) == ("Beyond" : Str)) = false := by decide +kernel
@[simp] theorem ne_heights_Right : (("heights" : Str) = ("Right" : Str)) = False := eq_false (by decide +kernel)
@[simp] theorem bq_heights_Right : (("heights" : Str) == ("Right" : Str)) = false := by decide +kernel
@[simp] theorem ne_heights_Wrong : (("heights" : Str) = ("Wrong" : Str)) = False := eq_false (by decide +kernel)
@[simp] theorem bq_heights_Wrong : (("heights" : Str) == ("Wrong" : Str)) = false := by decide +kernel
@[simp] theorem ne_heights_Yard : (("heights" : Str) = ("Yard" : Str)) = False := eq_false (by decide +kernel)
@[simp] theorem bq_heights_Yard : (("heights" : Str) == ("Yard" : Str)) = false := by decide +kernel
@[simp] theorem ne_lines_shows : (("lines" : Str) = ("shows" : Str)) = False := eq_false (by decide +kernel)
@[simp] theorem bq_lines_shows : (("lines" : Str) == ("shows" : Str)) = false := by decide +kernel
@[simp] theorem ne_lines_stand : (("lines" : Str) = ("stand" : Str)) = False := eq_false (by decide +kernel)
@[simp] theorem bq_lines_stand : (("lines" : Str) == ("stand" : Str)) = false := by decide +kernel
@[simp] theorem ne_lines_gone : (("lines" : Str) = ("gone" : Str)) = False := eq_false (by decide +kernel)
@[simp] theorem bq_lines_gone : (("lines" : Str) == ("gone" : Str)) = false := by decide +kernel
@[simp] theorem ne_lines_place : (("lines" : Str) = ("place" : Str)) = False := eq_false (by decide +kernel)
@[simp] theorem bq_lines_place : (("lines" : Str) == ("place" : Str)) = false := by decide +kernel
@[simp] theorem ne_lines_deeds : (("lines" : Str) = ("deeds" : Str)) = False := eq_false (by decide +kernel)
@[simp] theorem bq_lines_deeds : (("lines" : Str) == ("deeds" : Str)) = false := by decide +kernel
@[simp] theorem ne_lines_heights : (("lines" : Str) = ("heights" : Str)) = False := eq_false (by decide +kernel)
@[simp] theorem bq_lines_heights : (("lines" : Str) == ("heights" : Str)) = false := by decide +kernel
@[simp] theorem ne_lines_here : (("lines" : Str) = ("here" : Str)) = False := eq_false (by decide +kernel)
@[simp] theorem bq_lines_here : (("lines" : Str) == ("here" : Str)) = false := by decide +kernel
@[simp] theorem ne_lines_left : (("lines" : Str) = ("left" : Str)) = False := eq_false (by decide +kernel)
@[simp] theorem bq_lines_left : (("lines" : Str) == ("left" : Str)) = false := by decide +kernel
@[simp] theorem ne_lines_do : (("lines" : Str) = ("do" : Str)) = False := eq_false (by decide +kernel)
@[simp] theorem bq_lines_do : (("lines" : Str) == ("do" : Str)) = false := by decide +kernel
@[simp] theorem ne_lines_now : (("lines" : Str) = ("now" : Str)) = False := eq_false (by decide +kernel)
@[simp] theorem bq_lines_now : (("lines" : Str) == ("now" : Str)) = false := by decide +kernel
@[simp] theorem ne_lines_away : (("lines" : Str) = ("away" : Str)) = False := eq_false (by decide +kernel)
@[simp] theorem bq_lines_away : (("lines" : Str) == ("away" : Str)) = false := by decide +kernel
@[simp] theorem ne_lines_done : (("lines" : Str) = ("done" : Str)) = False := eq_false (by decide +kernel)
@[simp] theorem bq_lines_done : (("lines" : Str) == ("done" : Str)) = false := by decide +kernel
@[simp] theorem ne_lines_tale : (("lines" : Str) = ("tale" : Str)) = False := eq_false (by decide +kernel)
@[simp] theorem bq_lines_tale : (("lines" : Str) == ("tale" : Str)) = false := by decide +kernel
@[simp] theorem ne_lines_Came : (("lines" : Str) = ("Came" : Str)) = False := eq_false (by decide +kernel)
@[simp] theorem bq_lines_Came : (("lines" : Str) == ("Came" : Str)) = false := by decide +kernel
@[simp] theorem ne_lines_Barred : (("lines" : Str) = ("Barred" : Str)) = False := eq_false (by decide +kernel)
@[simp] theorem bq_lines_Barred : (("lines" : Str) == ("Barred" : Str)) = false := by decide +kernel
@[simp] theorem ne_lines_Within : (("lines" : Str) = ("Within" : Str)) = False := eq_false (by decide +kernel)
@[simp] theorem bq_lines_Within : (("lines" : Str) == ("Within" : Str)) = false := by decide +kernel
@[simp] theorem ne_lines_Beyond : (("lines" : Str) = ("Beyond" : Str)) = False := eq_false (by decide +kernel)
@[simp] theorem bq_lines_Beyond : (("lines" : Str) == ("Beyond" : Str)) = false := by decide +kernel
@[simp] theorem ne_lines_Right : (("lines" : Str) = ("Right" : Str)) = False := eq_false (by decide +kernel)
@[simp] theorem bq_lines_Right : (("lines" : Str) == ("Right" : Str)) = false := by decide +kernel
@[simp] theorem ne_lines_Wrong : (("lines" : Str) = ("Wrong" : Str)) = False := eq_false (by decide +kernel)
@[simp] theorem bq_lines_Wrong : (("lines" : Str) == ("Wrong" : Str)) = false := by decide +kernel
@[simp] theorem ne_lines_Yard : (("lines" : Str) = ("Yard" : Str)) = False := eq_false (by decide +kernel)
@[simp] theorem bq_lines_Yard : (("lines" : Str) == ("Yard" : Str)) = false := by decide +kernel
@[simp] theorem ne_here_shows : (("here" : Str) = ("shows" : Str)) = False := eq_false (by decide +kernel)
@[simp] theorem bq_here_shows : (("here" : Str) == ("shows" : Str)) = false := by decide +kernel
@[simp] theorem ne_here_stand : (("here" : Str) = ("stand" : Str)) = False := eq_false (by decide +kernel)
@[simp] theorem bq_here_stand : (("here" : Str) == ("stand" : Str)) = false := by decide +kernel
@[simp] theorem ne_here_gone : (("here" : Str) = ("gone" : Str)) = False := eq_false (by decide +kernel)
@[simp] theorem bq_here_gone : (("here" : Str) == ("gone" : Str)) = false := by decide +kernel
@[simp] theorem ne_here_place : (("here" : Str) = ("place" : Str)) = False := eq_false (by decide +kernel)
@[simp] theorem bq_here_place : (("here" : Str) == ("place" : Str)) = false := by decide +kernel
@[simp] theorem ne_here_deeds : (("here" : Str) = ("deeds" : Str)) = False := eq_false (by decide +kernel)
@[simp] theorem bq_here_deeds : (("here" : Str) == ("deeds" : Str)) = false := by decide +kernel
@[simp] theorem ne_here_heights : (("here" : Str) = ("heights" : Str)) = False := eq_false (by decide +kernel)
@[simp] theorem bq_here_heights : (("here" : Str) == ("heights" : Str)) = false := by decide +kernel
@[simp] theorem ne_here_lines : (("here" : Str) = ("lines" : Str)) = False := eq_false (by decide +kernel)
@[simp] theorem bq_here_lines : (("here" : Str) == ("lines" : Str)) = false := by decide +kernel
@[simp] theorem ne_here_left : (("here" : Str) = ("left" : Str)) = False := eq_false (by decide +kernel)
@[simp] theorem bq_here_left : (("here" : Str) == ("left" : Str)) = false := by decide +kernel
@[simp] theorem ne_here_do : (("here" : Str) = ("do" : Str)) = False := eq_false (by decide +kernel)
@[simp] theorem bq_here_do : (("here" : Str) == ("do" : Str)) = false := by decide +kernel
@[simp] theorem ne_here_now : (("here" : Str) = ("now" : Str)) = False := eq_false (by decide +kernel)
@[simp] theorem bq_here_now : (("here" : Str) == ("now" : Str)) = false := by decide +kernel
@[simp] theorem ne_here_away : (("here" : Str) = ("away" : Str)) = False := eq_false (by decide +kernel)
@[simp] theorem bq_here_away : (("here" : Str) == ("away" : Str)) = false := by decide +kernel
@[simp] theorem ne_here_done : (("here" : Str) = ("done" : Str)) = False := eq_false (by decide +kernel)
@[simp] theorem bq_here_done : (("here" : Str) == ("done" : Str)) = false := by decide +kernel
@[simp] theorem ne_here_tale : (("here" : Str) = ("tale" : Str)) = False := eq_false (by decide +kernel)
@[simp] theorem bq_here_tale : (("here" : Str) == ("tale" : Str)) = false := by decide +kernel
@[simp] theorem ne_here_Came : (("here" : Str) = ("Came" : Str)) = False := eq_false (by decide +kernel)
@[simp] theorem bq_here_Came : (("here" : Str) == ("Came" : Str)) = false := by decide +kernel
@[simp] theorem ne_here_Barred : (("here" : Str) = ("Barred" : Str)) = False := eq_false (by decide +kernel)
@[simp] theorem bq_here_Barred : (("here" : Str) == ("Barred" : Str)) = false := by decide +kernel
@[simp] theorem ne_here_Within : (("here" : Str) = ("Within" : Str)) = False := eq_false (by decide +kernel)
@[simp] theorem bq_here_Within : (("here" : Str) == ("Within" : Str)) = false := by decide +kernel
@[simp] theorem ne_here_Beyond : (("here" : Str) = ("Beyond" : Str)) = False := eq_false (by decide +kernel)
@[simp] theorem bq_here_Beyond : (("here" : Str) == ("Beyond" : Str)) = false := by decide +kernel
@[simp] theorem ne_here_Right : (("here" : Str) = ("Right" : Str)) = False := eq_false (by decide +kernel)
@[simp] theorem bq_here_Right : (("here" : Str) == ("Right" : Str)) = false := by decide +kernel
@[simp] theorem ne_here_Wrong : (("here" : Str) = ("Wrong" : Str)) = False := eq_false (by decide +kernel)
@[simp] theorem bq_here_Wrong : (("here" : Str) == ("Wrong" : Str)) = false := by decide +kernel
@[simp] theorem ne_here_Yard : (("here" : Str) = ("Yard" : Str)) = False := eq_false (by decide +kernel)
@[simp] theorem bq_here_Yard : (("here" : Str) == ("Yard" : Str)) = false := by decide +kernel
@[simp] theorem ne_left_shows : (("left" : Str) = ("shows" : Str)) = False := eq_false (by decide +kernel)
@[simp] theorem bq_left_shows : (("left" : Str) == ("shows" : Str)) = false := by decide +kernel
@[simp] theorem ne_left_stand : (("left" : Str) = ("stand" : Str)) = False := eq_false (by decide +kernel)
@[simp] theorem bq_left_stand : (("left" : Str) == ("stand" : Str)) = false := by decide +kernel
@[simp] theorem ne_left_gone : (("left" : Str) = ("gone" : Str)) = False := eq_false (by decide +kernel)
@[simp] theorem bq_left_gone : (("left" : Str) == ("gone" : Str)) = false := by decide +kernel
@[simp] theorem ne_left_place : (("left" : Str) = ("place" : Str)) = False := eq_false (by decide +kernel)
@[simp] theorem bq_left_place : (("left" : Str) == ("place" : Str)) = false := by decide +kernel
@[simp] theorem ne_left_deeds : (("left" : Str) = ("deeds" : Str)) = False := eq_false (by decide +kernel)
@[simp] theorem bq_left_deeds : (("left" : Str) == ("deeds" : Str)) = false := by decide +kernel
@[simp] theorem ne_left_heights : (("left" : Str) = ("heights" : Str)) = False := eq_false (by decide +kernel)
@[simp] theorem bq_left_heights : (("left" : Str) == ("heights" : Str)) = false := by decide +kernel
@[simp] theorem ne_left_lines : (("left" : Str) = ("lines" : Str)) = False := eq_false (by decide +kernel)
@[simp] theorem bq_left_lines : (("left" : Str) == ("lines" : Str)) = false := by decide +kernel
@[simp] theorem ne_left_here : (("left" : Str) = ("here" : Str)) = False := eq_false (by decide +kernel)
@[simp] theorem bq_left_here : (("left" : Str) == ("here" : Str)) = false := by decide +kernel
@[simp] theorem ne_left_do : (("left" : Str) = ("do" : Str)) = False := eq_false (by decide +kernel)
@[simp] theorem bq_left_do : (("left" : Str) == ("do" : Str)) = false := by decide +kernel
@[simp] theorem ne_left_now : (("left" : Str) = ("now" : Str)) = False := eq_false (by decide +kernel)
@[simp] theorem bq_left_now : (("left" : Str) == ("now" : Str)) = false := by decide +kernel
@[simp] theorem ne_left_away : (("left" : Str) = ("away" : Str)) = False := eq_false (by decide +kernel)
@[simp] theorem bq_left_away : (("left" : Str) == ("away" : Str)) = false := by decide +kernel
@[simp] theorem ne_left_done : (("left" : Str) = ("done" : Str)) = False := eq_false (by decide +kernel)
@[simp] theorem bq_left_done : (("left" : Str) == ("done" : Str)) = false := by decide +kernel
@[simp] theorem ne_left_tale : (("left" : Str) = ("tale" : Str)) = False := eq_false (by decide +kernel)
@[simp] theorem bq_left_tale : (("left" : Str) == ("tale" : Str)) = false := by decide +kernel
@[simp] theorem ne_left_Came : (("left" : Str) = ("Came" : Str)) = False := eq_false (by decide +kernel)
@[simp] theorem bq_left_Came : (("left" : Str) == ("Came" : Str)) = false := by decide +kernel
@[simp] theorem ne_left_Barred : (("left" : Str) = ("Barred" : Str)) = False := eq_false (by decide +kernel)
@[simp] theorem bq_left_Barred : (("left" : Str) == ("Barred" : Str)) = false := by decide +kernel
@[simp] theorem ne_left_Within : (("left" : Str) = ("Within" : Str)) = False := eq_false (by decide +kernel)
@[simp] theorem bq_left_Within : (("left" : Str) == ("Within" : Str)) = false := by decide +kernel
@[simp] theorem ne_left_Beyond : (("left" : Str) = ("Beyond" : Str)) = False := eq_false (by decide +kernel)
@[simp] theorem bq_left_Beyond : (("left" : Str) == ("Beyond" : Str)) = false := by decide +kernel
@[simp] theorem ne_left_Right : (("left" : Str) = ("Right" : Str)) = False := eq_false (by decide +kernel)
@[simp] theorem bq_left_Right : (("left" : Str) == ("Right" : Str)) = false := by decide +kernel
@[simp] theorem ne_left_Wrong : (("left" : Str) = ("Wrong" : Str)) = False := eq_false (by decide +kernel)
@[simp] theorem bq_left_Wrong : (("left" : Str) == ("Wrong" : Str)) = false := by decide +kernel
@[simp] theorem ne_left_Yard : (("left" : Str) = ("Yard" : Str)) = False := eq_false (by decide +kernel)
@[simp] theorem bq_left_Yard : (("left" : Str) == ("Yard" : Str)) = false := by decide +kernel
@[simp] theorem ne_do_shows : (("do" : Str) = ("shows" : Str)) = False := eq_false (by decide +kernel)
@[simp] theorem bq_do_shows : (("do" : Str) == ("shows" : Str)) = false := by decide +kernel
@[simp] theorem ne_do_stand : (("do" : Str) = ("stand" : Str)) = False := eq_false (by decide +kernel)
@[simp] theorem bq_do_stand : (("do" : Str) == ("stand" : Str)) = false := by decide +kernel
@[simp] theorem ne_do_gone : (("do" : Str) = ("gone" : Str)) = False := eq_false (by decide +kernel)
@[simp] theorem bq_do_gone : (("do" : Str) == ("gone" : Str)) = false := by decide +kernel
@[simp] theorem ne_do_place : (("do" : Str) = ("place" : Str)) = False := eq_false (by decide +kernel)
@[simp] theorem bq_do_place : (("do" : Str) == ("place" : Str)) = false := by decide +kernel
@[simp] theorem ne_do_deeds : (("do" : Str) = ("deeds" : Str)) = False := eq_false (by decide +kernel)
@[simp] theorem bq_do_deeds : (("do" : Str) == ("deeds" : Str)) = false := by decide +kernel
@[simp] theorem ne_do_heights : (("do" : Str) = ("heights" : Str)) = False := eq_false (by decide +kernel)
@[simp] theorem bq_do_heights : (("do" : Str) == ("heights" : Str)) = false := by decide +kernel
@[simp] theorem ne_do_lines : (("do" : Str) = ("lines" : Str)) = False := eq_false (by decide +kernel)
@[simp] theorem bq_do_lines : (("do" : Str) == ("lines" : Str)) = false := by decide +kernel
@[simp] theorem ne_do_here : (("do" : Str) = ("here" : Str)) = False := eq_false (by decide +kernel)
@[simp] theorem bq_do_here : (("do" : Str) == ("here" : Str)) = false := by decide +kernel
@[simp] theorem ne_do_left : (("do" : Str) = ("left" : Str)) = False := eq_false (by decide +kernel)
@[simp] theorem bq_do_left : (("do" : Str) == ("left" : Str)) = false := by decide +kernel
@[simp] theorem ne_do_now : (("do" : Str) = ("now" : Str)) = False := eq_false (by decide +kernel)
@[simp] theorem bq_do_now : (("do" : Str) == ("now" : Str)) = false := by decide +kernel
@[simp] theorem ne_do_away : (("do" : Str) = ("away" : Str)) = False := eq_false (by decide +kernel)
@[simp] theorem bq_do_away : (("do" : Str) == ("away" : Str)) = false := by decide +kernel
@[simp] theorem ne_do_done : (("do" : Str) = ("done" : Str)) = False := eq_false (by decide +kernel)
@[simp] theorem bq_do_done : (("do" : Str) == ("done" : Str)) = false := by decide +kernel
@[simp] theorem ne_do_tale : (("do" : Str) = ("tale" : Str)) = False := eq_false (by decide +kernel)
@[simp] theorem bq_do_tale : (("do" : Str) == ("tale" : Str)) = false := by decide +kernel
@[simp] theorem ne_do_Came : (("do" : Str) = ("Came" : Str)) = False := eq_false (by decide +kernel)
@[simp] theorem bq_do_Came : (("do" : Str) == ("Came" : Str)) = false := by decide +kernel
@[simp] theorem ne_do_Barred : (("do" : Str) = ("Barred" : Str)) = False := eq_false (by decide +kernel)
@[simp] theorem bq_do_Barred : (("do" : Str) == ("Barred" : Str)) = false := by decide +kernel
@[simp] theorem ne_do_Within : (("do" : Str) = ("Within" : Str)) = False := eq_false (by decide +kernel)
@[simp] theorem bq_do_Within : (("do" : Str) == ("Within" : Str)) = false := by decide +kernel
@[simp] theorem ne_do_Beyond : (("do" : Str) = ("Beyond" : Str)) = False := eq_false (by decide +kernel)
@[simp] theorem bq_do_Beyond : (("do" : Str) == ("Beyond" : Str)) = false := by decide +kernel
@[simp] theorem ne_do_Right : (("do" : Str) = ("Right" : Str)) = False := eq_false (by decide +kernel)
@[simp] theorem bq_do_Right : (("do" : Str) == ("Right" : Str)) = false := by decide +kernel
@[simp] theorem ne_do_Wrong : (("do" : Str) = ("Wrong" : Str)) = False := eq_false (by decide +kernel)
@[simp] theorem bq_do_Wrong : (("do" : Str) == ("Wrong" : Str)) = false := by decide +kernel
@[simp] theorem ne_do_Yard : (("do" : Str) = ("Yard" : Str)) = False := eq_false (by decide +kernel)
@[simp] theorem bq_do_Yard : (("do" : Str) == ("Yard" : Str)) = false := by decide +kernel
@[simp] theorem ne_now_shows : (("now" : Str) = ("shows" : Str)) = False := eq_false (by decide +kernel)
@[simp] theorem bq_now_shows : (("now" : Str) == ("shows" : Str)) = false := by decide +kernel
@[simp] theorem ne_now_stand : (("now" : Str) = ("stand" : Str)) = False := eq_false (by decide +kernel)
@[simp] theorem bq_now_stand : (("now" : Str) == ("stand" : Str)) = false := by decide +kernel
@[simp] theorem ne_now_gone : (("now" : Str) = ("gone" : Str)) = False := eq_false (by decide +kernel)
@[simp] theorem bq_now_gone : (("now" : Str) == ("gone" : Str)) = false := by decide +kernel
@[simp] theorem ne_now_place : (("now" : Str) = ("place" : Str)) = False := eq_false (by decide +kernel)
@[simp] theorem bq_now_place : (("now" : Str) == ("place" : Str)) = false := by decide +kernel
@[simp] theorem ne_now_deeds : (("now" : Str) = ("deeds" : Str)) = False := eq_false (by decide +kernel)
@[simp] theorem bq_now_deeds : (("now" : Str) == ("deeds" : Str)) = false := by decide +kernel
@[simp] theorem ne_now_heights : (("now" : Str) = ("heights" : Str)) = False := eq_false (by decide +kernel)
@[simp] theorem bq_now_heights : (("now" : Str) == ("heights" : Str)) = false := by decide +kernel
@[simp] theorem ne_now_lines : (("now" : Str) = ("lines" : Str)) = False := eq_false (by decide +kernel)
@[simp] theorem bq_now_lines : (("now" : Str) == ("lines" : Str)) = false := by decide +kernel
@[simp] theorem ne_now_here : (("now" : Str) = ("here" : Str)) = False := eq_false (by decide +kernel)
@[simp] theorem bq_now_here : (("now" : Str) == ("here" : Str)) = false := by decide +kernel
@[simp] theorem ne_now_left : (("now" : Str) = ("left" : Str)) = False := eq_false (by decide +kernel)
@[simp] theorem bq_now_left : (("now" : Str) == ("left" : Str)) = false := by decide +kernel
@[simp] theorem ne_now_do : (("now" : Str) = ("do" : Str)) = False := eq_false (by decide +kernel)
@[simp] theorem bq_now_do : (("now" : Str) == ("do" : Str)) = false := by decide +kernel
@[simp] theorem ne_now_away : (("now" : Str) = ("away" : Str)) = False := eq_false (by decide +kernel)
@[simp] theorem bq_now_away : (("now" : Str) == ("away" : Str)) = false := by decide +kernel
@[simp] theorem ne_now_done : (("now" : Str) = ("done" : Str)) = False := eq_false (by decide +kernel)
@[simp] theorem bq_now_done : (("now" : Str) == ("done" : Str)) = false := by decide +kernel
@[simp] theorem ne_now_tale : (("now" : Str) = ("tale" : Str)) = False := eq_false (by decide +kernel)
@[simp] theorem bq_now_tale : (("now" : Str) == ("tale" : Str)) = false := by decide +kernel
@[simp] theorem ne_now_Came : (("now" : Str) = ("Came" : Str)) = False := eq_false (by decide +kernel)
@[simp] theorem bq_now_Came : (("now" : Str) == ("Came" : Str)) = false := by decide +kernel
@[simp] theorem ne_now_Barred : (("now" : Str) = ("Barred" : Str)) = False := eq_false (by decide +kernel)
@[simp] theorem bq_now_Barred : (("now" : Str) == ("Barred" : Str)) = false := by decide +kernel
@[simp] theorem ne_now_Within : (("now" : Str) = ("Within" : Str)) = False := eq_false (by decide +kernel)
@[simp] theorem bq_now_Within : (("now" : Str) == ("Within" : Str)) = false := by decide +kernel
@[simp] theorem ne_now_Beyond : (("now" : Str) = ("Beyond" : Str)) = False := eq_false (by decide +kernel)
@[simp] theorem bq_now_Beyond : (("now" : Str) == ("Beyond" : Str)) = false := by decide +kernel
@[simp] theorem ne_now_Right : (("now" : Str) = ("Right" : Str)) = False := eq_false (by decide +kernel)
@[simp] theorem bq_now_Right : (("now" : Str) == ("Right" : Str)) = false := by decide +kernel
@[simp] theorem ne_now_Wrong : (("now" : Str) = ("Wrong" : Str)) = False := eq_false (by decide +kernel)
@[simp] theorem bq_now_Wrong : (("now" : Str) == ("Wrong" : Str)) = false := by decide +kernel
@[simp] theorem ne_now_Yard : (("now" : Str) = ("Yard" : Str)) = False := eq_false (by decide +kernel)
@[simp] theorem bq_now_Yard : (("now" : Str) == ("Yard" : Str)) = false := by decide +kernel
@[simp] theorem ne_away_shows : (("away" : Str) = ("shows" : Str)) = False := eq_false (by decide +kernel)
@[simp] theorem bq_away_shows : (("away" : Str) == ("shows" : Str)) = false := by decide +kernel
@[simp] theorem ne_away_stand : (("away" : Str) = ("stand" : Str)) = False := eq_false (by decide +kernel)
@[simp] theorem bq_away_stand : (("away" : Str) == ("stand" : Str)) = false := by decide +kernel
@[simp] theorem ne_away_gone : (("away" : Str) = ("gone" : Str)) = False := eq_false (by decide +kernel)
@[simp] theorem bq_away_gone : (("away" : Str) == ("gone" : Str)) = false := by decide +kernel
@[simp] theorem ne_away_place : (("away" : Str) = ("place" : Str)) = False := eq_false (by decide +kernel)
@[simp] theorem bq_away_place : (("away" : Str) == ("place" : Str)) = false := by decide +kernel
@[simp] theorem ne_away_deeds : (("away" : Str) = ("deeds" : Str)) = False := eq_false (by decide +kernel)
@[simp] theorem bq_away_deeds : (("away" : Str) == ("deeds" : Str)) = false := by decide +kernel
@[simp] theorem ne_away_heights : (("away" : Str) = ("heights" : Str)) = False := eq_false (by decide +kernel)
@[simp] theorem bq_away_heights : (("away" : Str) == ("heights" : Str)) = false := by decide +kernel
@[simp] theorem ne_away_lines : (("away" : Str) = ("lines" : Str)) = False := eq_false (by decide +kernel)
@[simp] theorem bq_away_lines : (("away" : Str) == ("lines" : Str)) = false := by decide +kernel
@[simp] theorem ne_away_here : (("away" : Str) = ("here" : Str)) = False := eq_false (by decide +kernel)
@[simp] theorem bq_away_here : (("away" : Str) == ("here" : Str)) = false := by decide +kernel
@[simp] theorem ne_away_left : (("away" : Str) = ("left" : Str)) = False := eq_false (by decide +kernel)
@[simp] theorem bq_away_left : (("away" : Str) == ("left" : Str)) = false := by decide +kernel
@[simp] theorem ne_away_do : (("away" : Str) = ("do" : Str)) = False := eq_false (by decide +kernel)
@[simp] theorem bq_away_do : (("away" : Str) == ("do" : Str)) = false := by decide +kernel
@[simp] theorem ne_away_now : (("away" : Str) = ("now" : Str)) = False := eq_false (by decide +kernel)
@[simp] theorem bq_away_now : (("away" : Str) == ("now" : Str)) = false := by decide +kernel
@[simp] theorem ne_away_done : (("away" : Str) = ("done" : Str)) = False := eq_false (by decide +kernel)
@[simp] theorem bq_away_done : (("away" : Str) == ("done" : Str)) = false := by decide +kernel
@[simp] theorem ne_away_tale : (("away" : Str) = ("tale" : Str)) = False := eq_false (by decide +kernel)
@[simp] theorem bq_away_tale : (("away" : Str) == ("tale" : Str)) = false := by decide +kernel
@[simp] theorem ne_away_Came : (("away" : Str) = ("Came" : Str)) = False := eq_false (by decide +kernel)
@[simp] theorem bq_away_Came : (("away" : Str) == ("Came" : Str)) = false := by decide +kernel
@[simp] theorem ne_away_Barred : (("away" : Str) = ("Barred" : Str)) = False := eq_false (by decide +kernel)
@[simp] theorem bq_away_Barred : (("away" : Str) == ("Barred" : Str)) = false := by decide +kernel
@[simp] theorem ne_away_Within : (("away" : Str) = ("Within" : Str)) = False := eq_false (by decide +kernel)
@[simp] theorem bq_away_Within : (("away" : Str) == ("Within" : Str)) = false := by decide +kernel
@[simp] theorem ne_away_Beyond : (("away" : Str) = ("Beyond" : Str)) = False := eq_false (by decide +kernel)
@[simp] theorem bq_away_Beyond : (("away" : Str) == ("Beyond" : Str)) = false := by decide +kernel
@[simp] theorem ne_away_Right : (("away" : Str) = ("Right" : Str)) = False := eq_false (by decide +kernel)
@[simp] theorem bq_away_Right : (("away" : Str) == ("Right" : Str)) = false := by decide +kernel
@[simp] theorem ne_away_Wrong : (("away" : Str) = ("Wrong" : Str)) = False := eq_false (by decide +kernel)
@[simp] theorem bq_away_Wrong : (("away" : Str) == ("Wrong" : Str)) = false := by decide +kernel
@[simp] theorem ne_away_Yard : (("away" : Str) = ("Yard" : Str)) = False := eq_false (by decide +kernel)
@[simp] theorem bq_away_Yard : (("away" : Str) == ("Yard" : Str)) = false := by decide +kernel
@[simp] theorem ne_done_shows : (("done" : Str) = ("shows" : Str)) = False := eq_false (by decide +kernel)
@[simp] theorem bq_done_shows : (("done" : Str) == ("shows" : Str)) = false := by decide +kernel
@[simp] theorem ne_done_stand : (("done" : Str) = ("stand" : Str)) = False := eq_false (by decide +kernel)
@[simp] theorem bq_done_stand : (("done" : Str) == ("stand" : Str)) = false := by decide +kernel
@[simp] theorem ne_done_gone : (("done" : Str) = ("gone" : Str)) = False := eq_false (by decide +kernel)
@[simp] theorem bq_done_gone : (("done" : Str) == ("gone" : Str)) = false := by decide +kernel
@[simp] theorem ne_done_place : (("done" : Str) = ("place" : Str)) = False := eq_false (by decide +kernel)
@[simp] theorem bq_done_place : (("done" : Str) == ("place" : Str)) = false := by decide +kernel
@[simp] theorem ne_done_deeds : (("done" : Str) = ("deeds" : Str)) = False := eq_false (by decide +kernel)
@[simp] theorem bq_done_deeds : (("done" : Str) == ("deeds" : Str)) = false := by decide +kernel
@[simp] theorem ne_done_heights : (("done" : Str) = ("heights" : Str)) = False := eq_false (by decide +kernel)
@[simp] theorem bq_done_heights : (("done" : Str) == ("heights" : Str)) = false := by decide +kernel
@[simp] theorem ne_done_lines : (("done" : Str) = ("lines" : Str)) = False := eq_false (by decide +kernel)
@[simp] theorem bq_done_lines : (("done" : Str) == ("lines" : Str)) = false := by decide +kernel
@[simp] theorem ne_done_here : (("done" : Str) = ("here" : Str)) = False := eq_false (by decide +kernel)
@[simp] theorem bq_done_here : (("done" : Str) == ("here" : Str)) = false := by decide +kernel
@[simp] theorem ne_done_left : (("done" : Str) = ("left" : Str)) = False := eq_false (by decide +kernel)
@[simp] theorem bq_done_left : (("done" : Str) == ("left" : Str)) = false := by decide +kernel
@[simp] theorem ne_done_do : (("done" : Str) = ("do" : Str)) = False := eq_false (by decide +kernel)
@[simp] theorem bq_done_do : (("done" : Str) == ("do" : Str)) = false := by decide +kernel
@[simp] theorem ne_done_now : (("done" : Str) = ("now" : Str)) = False := eq_false (by decide +kernel)
@[simp] theorem bq_done_now : (("done" : Str) == ("now" : Str)) = false := by decide +kernel
@[simp] theorem ne_done_away : (("done" : Str) = ("away" : Str)) = False := eq_false (by decide +kernel)
@[simp] theorem bq_done_away : (("done" : Str) == ("away" : Str)) = false := by decide +kernel
@[simp] theorem ne_done_tale : (("done" : Str) = ("tale" : Str)) = False := eq_false (by decide +kernel)
@[simp] theorem bq_done_tale : (("done" : Str) == ("tale" : Str)) = false := by decide +kernel
@[simp] theorem ne_done_Came : (("done" : Str) = ("Came" : Str)) = False := eq_false (by decide +kernel)
@[simp] theorem bq_done_Came : (("done" : Str) == ("Came" : Str)) = false := by decide +kernel
@[simp] theorem ne_done_Barred : (("done" : Str) = ("Barred" : Str)) = False := eq_false (by decide +kernel)
@[simp] theorem bq_done_Barred : (("done" : Str) == ("Barred" : Str)) = false := by decide +kernel
@[simp] theorem ne_done_Within : (("done" : Str) = ("Within" : Str)) = False := eq_false (by decide +kernel)
@[simp] theorem bq_done_Within : (("done" : Str) == ("Within" : Str)) = false := by decide +kernel
@[simp] theorem ne_done_Beyond : (("done" : Str) = ("Beyond" : Str)) = False := eq_false (by decide +kernel)
@[simp] theorem bq_done_Beyond : (("done" : Str) == ("Beyond" : Str)) = false := by decide +kernel
@[simp] theorem ne_done_Right : (("done" : Str) = ("Right" : Str)) = False := eq_false (by decide +kernel)
@[simp] theorem bq_done_Right : (("done" : Str) == ("Right" : Str)) = false := by decide +kernel
@[simp] theorem ne_done_Wrong : (("done" : Str) = ("Wrong" : Str)) = False := eq_false (by decide +kernel)
@[simp] theorem bq_done_Wrong : (("done" : Str) == ("Wrong" : Str)) = false := by decide +kernel
@[simp] theorem ne_done_Yard : (("done" : Str) = ("Yard" : Str)) = False := eq_false (by decide +kernel)
@[simp] theorem bq_done_Yard : (("done" : Str) == ("Yard" : Str)) = false := by decide +kernel
@[simp] theorem ne_tale_shows : (("tale" : Str) = ("shows" : Str)) = False := eq_false (by decide +kernel)
@[simp] theorem bq_tale_shows : (("tale" : Str) == ("shows" : Str)) = false := by decide +kernel
@[simp] theorem ne_tale_stand : (("tale" : Str) = ("stand" : Str)) = False := eq_false (by decide +kernel)
@[simp] theorem bq_tale_stand : (("tale" : Str) == ("stand" : Str)) = false := by decide +kernel
@[simp] theorem ne_tale_gone : (("tale" : Str) = ("gone" : Str)) = False := eq_false (by decide +kernel)
@[simp] theorem bq_tale_gone : (("tale" : Str) == ("gone" : Str)) = false := by decide +kernel
@[simp] theorem ne_tale_place : (("tale" : Str) = ("place" : Str)) = False := eq_false (by decide +kernel)
@[simp] theorem bq_tale_place : (("tale" : Str) == ("place" : Str)) = false := by decide +kernel
@[simp] theorem ne_tale_deeds : (("tale" : Str) = ("deeds" : Str)) = False := eq_false (by decide +kernel)
@[simp] theorem bq_tale_deeds : (("tale" : Str) == ("deeds" : Str)) = false := by decide +kernel
@[simp] theorem ne_tale_heights : (("tale" : Str) = ("heights" : Str)) = False := eq_false (by decide +kernel)
@[simp] theorem bq_tale_heights : (("tale" : Str) == ("heights" : Str)) = false := by decide +kernel
@[simp] theorem ne_tale_lines : (("tale" : Str) = ("lines" : Str)) = False := eq_false (by decide +kernel)
@[simp] theorem bq_tale_lines : (("tale" : Str) == ("lines" : Str)) = false := by decide +kernel
@[simp] theorem ne_tale_here : (("tale" : Str) = ("here" : Str)) = False := eq_false (by decide +kernel)
@[simp] theorem bq_tale_here : (("tale" : Str) == ("here" : Str)) = false := by decide +kernel
@[simp] theorem ne_tale_left : (("tale" : Str) = ("left" : Str)) = False := eq_false (by decide +kernel)
@[simp] theorem bq_tale_left : (("tale" : Str) == ("left" : Str)) = false := by decide +kernel
@[simp] theorem ne_tale_do : (("tale" : Str) = ("do" : Str)) = False := eq_false (by decide +kernel)
@[simp] theorem bq_tale_do : (("tale" : Str) == ("do" : Str)) = false := by decide +kernel
@[simp] theorem ne_tale_now : (("tale" : Str) = ("now" : Str)) = False := eq_false (by decide +kernel)
@[simp] theorem bq_tale_now : (("tale" : Str) == ("now" : Str)) = false := by decide +kernel
@[simp] theorem ne_tale_away : (("tale" : Str) = ("away" : Str)) = False := eq_false (by decide +kernel)
@[simp] theorem bq_tale_away : (("tale" : Str) == ("away" : Str)) = false := by decide +kernel
@[simp] theorem ne_tale_done : (("tale" : Str) = ("done" : Str)) = False := eq_false (by decide +kernel)
@[simp] theorem bq_tale_done : (("tale" : Str) == ("done" : Str)) = false := by decide +kernel
@[simp] theorem ne_tale_Came : (("tale" : Str) = ("Came" : Str)) = False := eq_false (by decide +kernel)
@[simp] theorem bq_tale_Came : (("tale" : Str) == ("Came" : Str)) = false := by decide +kernel
@[simp] theorem ne_tale_Barred : (("tale" : Str) = ("Barred" : Str)) = False := eq_false (by decide +kernel)
@[simp] theorem bq_tale_Barred : (("tale" : Str) == ("Barred" : Str)) = false := by decide +kernel
@[simp] theorem ne_tale_Within : (("tale" : Str) = ("Within" : Str)) = False := eq_false (by decide +kernel)
@[simp] theorem bq_tale_Within : (("tale" : Str) == ("Within" : Str)) = false := by decide +kernel
@[simp] theorem ne_tale_Beyond : (("tale" : Str) = ("Beyond" : Str)) = False := eq_false (by decide +kernel)
@[simp] theorem bq_tale_Beyond : (("tale" : Str) == ("Beyond" : Str)) = false := by decide +kernel
@[simp] theorem ne_tale_Right : (("tale" : Str) = ("Right" : Str)) = False := eq_false (by decide +kernel)
@[simp] theorem bq_tale_Right : (("tale" : Str) == ("Right" : Str)) = false := by decide +kernel
@[simp] theorem ne_tale_Wrong : (("tale" : Str) = ("Wrong" : Str)) = False := eq_false (by decide +kernel)
@[simp] theorem bq_tale_Wrong : (("tale" : Str) == ("Wrong" : Str)) = false := by decide +kernel
@[simp] theorem ne_tale_Yard : (("tale" : Str) = ("Yard" : Str)) = False := eq_false (by decide +kernel)
@[simp] theorem bq_tale_Yard : (("tale" : Str) == ("Yard" : Str)) = false := by decide +kernel
@[simp] theorem ne_Came_shows : (("Came" : Str) = ("shows" : Str)) = False := eq_false (by decide +kernel)
@[simp] theorem bq_Came_shows : (("Came" : Str) == ("shows" : Str)) = false := by decide +kernel
@[simp] theorem ne_Came_stand : (("Came" : Str) = ("stand" : Str)) = False := eq_false (by decide +kernel)
@[simp] theorem bq_Came_stand : (("Came" : Str) == ("stand" : Str)) = false := by decide +kernel
@[simp] theorem ne_Came_gone : (("Came" : Str) = ("gone" : Str)) = False := eq_false (by decide +kernel)
@[simp] theorem bq_Came_gone : (("Came" : Str) == ("gone" : Str)) = false := by decide +kernel
@[simp] theorem ne_Came_place : (("Came" : Str) = ("place" : Str)) = False := eq_false (by decide +kernel)
@[simp] theorem bq_Came_place : (("Came" : Str) == ("place" : Str)) = false := by decide +kernel
@[simp] theorem ne_Came_deeds : (("Came" : Str) = ("deeds" : Str)) = False := eq_false (by decide +kernel)
@[simp] theorem bq_Came_deeds : (("Came" : Str) == ("deeds" : Str)) = false := by decide +kernel
@[simp] theorem ne_Came_heights : (("Came" : Str) = ("heights" : Str)) = False := eq_false (by decide +kernel)
@[simp] theorem bq_Came_heights : (("Came" : Str) == ("heights" : Str)) = false := by decide +kernel
@[simp] theorem ne_Came_lines : (("Came" : Str) = ("lines" : Str)) = False := eq_false (by decide +kernel)
@[simp] theorem bq_Came_lines : (("Came" : Str) == ("lines" : Str)) = false := by decide +kernel
@[simp] theorem ne_Came_here : (("Came" : Str) = ("here" : Str)) = False := eq_false (by decide +kernel)
@[simp] theorem bq_Came_here : (("Came" : Str) == ("here" : Str)) = false := by decide +kernel
@[simp] theorem ne_Came_left : (("Came" : Str) = ("left" : Str)) = False := eq_false (by decide +kernel)
@[simp] theorem bq_Came_left : (("Came" : Str) == ("left" : Str)) = false := by decide +kernel
@[simp] theorem ne_Came_do : (("Came" : Str) = ("do" : Str)) = False := eq_false (by decide +kernel)
@[simp] theorem bq_Came_do : (("Came" : Str) == ("do" : Str)) = false := by decide +kernel
@[simp] theorem ne_Came_now : (("Came" : Str) = ("now" : Str)) = False := eq_false (by decide +kernel)
@[simp] theorem bq_Came_now : (("Came" : Str) == ("now" : Str)) = false := by decide +kernel
@[simp] theorem ne_Came_away : (("Came" : Str) = ("away" : Str)) = False := eq_false (by decide +kernel)
@[simp] theorem bq_Came_away : (("Came" : Str) == ("away" : Str)) = false := by decide +kernel
@[simp] theorem ne_Came_done : (("Came" : Str) = ("done" : Str)) = False := eq_false (by decide +kernel)
@[simp] theorem bq_Came_done : (("Came" : Str) == ("done" : Str)) = false := by decide +kernel
@[simp] theorem ne_Came_tale : (("Came" : Str) = ("tale" : Str)) = False := eq_false (by decide +kernel)
@[simp] theorem bq_Came_tale : (("Came" : Str) == ("tale" : Str)) = false := by decide +kernel
@[simp] theorem ne_Came_Barred : (("Came" : Str) = ("Barred" : Str)) = False := eq_false (by decide +kernel)
@[simp] theorem bq_Came_Barred : (("Came" : Str) == ("Barred" : Str)) = false := by decide +kernel
@[simp] theorem ne_Came_Within : (("Came" : Str) = ("Within" : Str)) = False := eq_false (by decide +kernel)
@[simp] theorem bq_Came_Within : (("Came" : Str) == ("Within" : Str)) = false := by decide +kernel
@[simp] theorem ne_Came_Beyond : (("Came" : Str) = ("Beyond" : Str)) = False := eq_false (by decide +kernel)
@[simp] theorem bq_Came_Beyond : (("Came" : Str) == ("Beyond" : Str)) = false := by decide +kernel
@[simp] theorem ne_Came_Right : (("Came" : Str) = ("Right" : Str)) = False := eq_false (by decide +kernel)
@[simp] theorem bq_Came_Right : (("Came" : Str) == ("Right" : Str)) = false := by decide +kernel
@[simp] theorem ne_Came_Wrong : (("Came" : Str) = ("Wrong" : Str)) = False := eq_false (by decide +kernel)
@[simp] theorem bq_Came_Wrong : (("Came" : Str) == ("Wrong" : Str)) = false := by decide +kernel
@[simp] theorem ne_Came_Yard : (("Came" : Str) = ("Yard" : Str)) = False := eq_false (by decide +kernel)
@[simp] theorem bq_Came_Yard : (("Came" : Str) == ("Yard" : Str)) = false := by decide +kernel
@[simp] theorem ne_Barred_shows : (("Barred" : Str) = ("shows" : Str)) = False := eq_false (by decide +kernel)
@[simp] theorem bq_Barred_shows : (("Barred" : Str) == ("shows" : Str)) = false := by decide +kernel
@[simp] theorem ne_Barred_stand : (("Barred" : Str) = ("stand" : Str)) = False := eq_false (by decide +kernel)
@[simp] theorem bq_Barred_stand : (("Barred" : Str) == ("stand" : Str)) = false := by decide +kernel
@[simp] theorem ne_Barred_gone : (("Barred" : Str) = ("gone" : Str)) = False := eq_false (by decide +kernel)
@[simp] theorem bq_Barred_gone : (("Barred" : Str) == ("gone" : Str)) = false := by decide +kernel
@[simp] theorem ne_Barred_place : (("Barred" : Str) = ("place" : Str)) = False := eq_false (by decide +kernel)
@[simp] theorem bq_Barred_place : (("Barred" : Str) == ("place" : Str)) = false := by decide +kernel
@[simp] theorem ne_Barred_deeds : (("Barred" : Str) = ("deeds" : Str)) = False := eq_false (by decide +kernel)
@[simp] theorem bq_Barred_deeds : (("Barred" : Str) == ("deeds" : Str)) = false := by decide +kernel
@[simp] theorem ne_Barred_heights : (("Barred" : Str) = ("heights" : Str)) = False := eq_false (by decide +kernel)
@[simp] theorem bq_Barred_heights : (("Barred" : Str) == ("heights" : Str)) = false := by decide +kernel
@[simp] theorem ne_Barred_lines : (("Barred" : Str) = ("lines" : Str)) = False := eq_false (by decide +kernel)
@[simp] theorem bq_Barred_lines : (("Barred" : Str) == ("lines" : Str)) = false := by decide +kernel
@[simp] theorem ne_Barred_here : (("Barred" : Str) = ("here" : Str)) = False := eq_false (by decide +kernel)
@[simp] theorem bq_Barred_here : (("Barred" : Str) == ("here" : Str)) = false := by decide +kernel
@[simp] theorem ne_Barred_left : (("Barred" : Str) = ("left" : Str)) = False := eq_false (by decide +kernel)
@[simp] theorem bq_Barred_left : (("Barred" : Str) == ("left" : Str)) = false := by decide +kernel
@[simp] theorem ne_Barred_do : (("Barred" : Str) = ("do" : Str)) = False := eq_false (by decide +kernel)
@[simp] theorem bq_Barred_do : (("Barred" : Str) == ("do" : Str)) = false := by decide +kernel
@[simp] theorem ne_Barred_now : (("Barred" : Str) = ("now" : Str)) = False := eq_false (by decide +kernel)
@[simp] theorem bq_Barred_now : (("Barred" : Str) == ("now" : Str)) = false := by decide +kernel
@[simp] theorem ne_Barred_away : (("Barred" : Str) = ("away" : Str)) = False := eq_false (by decide +kernel)
@[simp] theorem bq_Barred_away : (("Barred" : Str) == ("away" : Str)) = false := by decide +kernel
@[simp] theorem ne_Barred_done : (("Barred" : Str) = ("done" : Str)) = False := eq_false (by decide +kernel)
@[simp] theorem bq_Barred_done : (("Barred" : Str) == ("done" : Str)) = false := by decide +kernel
@[simp] theorem ne_Barred_tale : (("Barred" : Str) = ("tale" : Str)) = False := eq_false (by decide +kernel)
@[simp] theorem bq_Barred_tale : (("Barred" : Str) == ("tale" : Str)) = false := by decide +kernel
@[simp] theorem ne_Barred_Came : (("Barred" : Str) = ("Came" : Str)) = False := eq_false (by decide +kernel)
@[simp] theorem bq_Barred_Came : (("Barred" : Str) == ("Came" : Str)) = false := by decide +kernel
@[simp] theorem ne_Barred_Within : (("Barred" : Str) = ("Within" : Str)) = False := eq_false (by decide +kernel)
@[simp] theorem bq_Barred_Within : (("Barred" : Str) == ("Within" : Str)) = false := by decide +kernel
@[simp] theorem ne_Barred_Beyond : (("Barred" : Str) = ("Beyond" : Str)) = False := eq_false (by decide +kernel)
@[simp] theorem bq_Barred_Beyond : (("Barred" : Str) == ("Beyond" : Str)) = false := by decide +kernel
@[simp] theorem ne_Barred_Right : (("Barred" : Str) = ("Right" : Str)) = False := eq_false (by decide +kernel)
@[simp] theorem bq_Barred_Right : (("Barred" : Str) == ("Right" : Str)) = false := by decide +kernel
@[simp] theorem ne_Barred_Wrong : (("Barred" : Str) = ("Wrong" : Str)) = False := eq_false (by decide +kernel)
@[simp] theorem bq_Barred_Wrong : (("Barred" : Str) == ("Wrong" : Str)) = false := by decide +kernel
@[simp] theorem ne_Barred_Yard : (("Barred" : Str) = ("Yard" : Str)) = False := eq_false (by decide +kernel)
@[simp] theorem bq_Barred_Yard : (("Barred" : Str) == ("Yard" : Str)) = false := by decide +kernel
@[simp] theorem ne_Within_shows : (("Within" : Str) = ("shows" : Str)) = False := eq_false (by decide +kernel)
@[simp] theorem bq_Within_shows : (("Within" : Str) == ("shows" : Str)) = false := by decide +kernel
@[simp] theorem ne_Within_stand : (("Within" : Str) = ("stand" : Str)) = False := eq_false (by decide +kernel)
@[simp] theorem bq_Within_stand : (("Within" : Str) == ("stand" : Str)) = false := by decide +kernel
@[simp] theorem ne_Within_gone : (("Within" : Str) = ("gone" : Str)) = False := eq_false (by decide +kernel)
@[simp] theorem bq_Within_gone : (("Within" : Str) == ("gone" : Str)) = false := by decide +kernel
@[simp] theorem ne_Within_place : (("Within" : Str) = ("place" : Str)) = False := eq_false (by decide +kernel)
@[simp] theorem bq_Within_place : (("Within" : Str) == ("place" : Str)) = false := by decide +kernel
@[simp] theorem ne_Within_deeds : (("Within" : Str) = ("deeds" : Str)) = False := eq_false (by decide +kernel)
@[simp] theorem bq_Within_deeds : (("Within" : Str) == ("deeds" : Str)) = false := by decide +kernel
@[simp] theorem ne_Within_heights : (("Within" : Str) = ("heights" : Str)) = False := eq_false (by decide +kernel)
@[simp] theorem bq_Within_heights : (("Within" : Str) == ("heights" : Str)) = false := by decide +kernel
@[simp] theorem ne_Within_lines : (("Within" : Str) = ("lines" : Str)) = False := eq_false (by decide +kernel)
@[simp] theorem bq_Within_lines : (("Within" : Str) == ("lines" : Str)) = false := by decide +kernel
@[simp] theorem ne_Within_here : (("Within" : Str) = ("here" : Str)) = False := eq_false (by decide +kernel)
@[simp] theorem bq_Within_here : (("Within" : Str) == ("here" : Str)) = false := by decide +kernel
@[simp] theorem ne_Within_left : (("Within" : Str) = ("left" : Str)) = False := eq_false (by decide +kernel)
@[simp] theorem bq_Within_left : (("Within" : Str) == ("left" : Str)) = false := by decide +kernel
@[simp] theorem ne_Within_do : (("Within" : Str) = ("do" : Str)) = False := eq_false (by decide +kernel)
@[simp] theorem bq_Within_do : (("Within" : Str) == ("do" : Str)) = false := by decide +kernel
@[simp] theorem ne_Within_now : (("Within" : Str) = ("now" : Str)) = False := eq_false (by decide +kernel)
@[simp] theorem bq_Within_now : (("Within" : Str) == ("now" : Str)) = false := by decide +kernel
@[simp] theorem ne_Within_away : (("Within" : Str) = ("away" : Str)) = False := eq_false (by decide +kernel)
@[simp] theorem bq_Within_away : (("Within" : Str) == ("away" : Str)) = false := by decide +kernel
@[simp] theorem ne_Within_done : (("Within" : Str) = ("done" : Str)) = False := eq_false (by decide +kernel)
@[simp] theorem bq_Within_done : (("Within" : Str) == ("done" : Str)) = false := by decide +kernel
@[simp] theorem ne_Within_tale : (("Within" : Str) = ("tale" : Str)) = False := eq_false (by decide +kernel)
@[simp] theorem bq_Within_tale : (("Within" : Str) == ("tale" : Str)) = false := by decide +kernel
@[simp] theorem ne_Within_Came : (("Within" : Str) = ("Came" : Str)) = False := eq_false (by decide +kernel)
@[simp] theorem bq_Within_Came : (("Within" : Str) == ("Came" : Str)) = false := by decide +kernel
@[simp] theorem ne_Within_Barred : (("Within" : Str) = ("Barred" : Str)) = False := eq_false (by decide +kernel)
@[simp] theorem bq_Within_Barred : (("Within" : Str) == ("Barred" : Str)) = false := by decide +kernel
@[simp] theorem ne_Within_Beyond : (("Within" : Str) = ("Beyond" : Str)) = False := eq_false (by decide +kernel)
@[simp] theorem bq_Within_Beyond : (("Within" : Str) == ("Beyond" : Str)) = false := by decide +kernel
@[simp] theorem ne_Within_Right : (("Within" : Str) = ("Right" : Str)) = False := eq_false (by decide +kernel)
@[simp] theorem bq_Within_Right : (("Within" : Str) == ("Right" : Str)) = false := by decide +kernel
@[simp] theorem ne_Within_Wrong : (("Within" : Str) = ("Wrong" : Str)) = False := eq_false (by decide +kernel)
@[simp] theorem bq_Within_Wrong : (("Within" : Str) == ("Wrong" : Str)) = false := by decide +kernel
@[simp] theorem ne_Within_Yard : (("Within" : Str) = ("Yard" : Str)) = False := eq_false (by decide +kernel)
@[simp] theorem bq_Within_Yard : (("Within" : Str) == ("Yard" : Str)) = false := by decide +kernel
@[simp] theorem ne_Beyond_shows : (("Beyond" : Str) = ("shows" : Str)) = False := eq_false (by decide +kernel)
@[simp] theorem bq_Beyond_shows : (("Beyond" : Str) == ("shows" : Str)) = false := by decide +kernel
@[simp] theorem ne_Beyond_stand : (("Beyond" : Str) = ("stand" : Str)) = False := eq_false (by decide +kernel)
@[simp] theorem bq_Beyond_stand : (("Beyond" : Str) == ("stand" : Str)) = false := by decide +kernel
@[simp] theorem ne_Beyond_gone : (("Beyond" : Str) = ("gone" : Str)) = False := eq_false (by decide +kernel)
@[simp] theorem bq_Beyond_gone : (("Beyond" : Str) == ("gone" : Str)) = false := by decide +kernel
@[simp] theorem ne_Beyond_place : (("Beyond" : Str) = ("place" : Str)) = False := eq_false (by decide +kernel)
@[simp] theorem bq_Beyond_place : (("Beyond" : Str) == ("place" : Str)) = false := by decide +kernel
@[simp] theorem ne_Beyond_deeds : (("Beyond" : Str) = ("deeds" : Str)) = False := eq_false (by decide +kernel)
@[simp] theorem bq_Beyond_deeds : (("Beyond" : Str) == ("deeds" : Str)) = false := by decide +kernel
@[simp] theorem ne_Beyond_heights : (("Beyond" : Str) = ("heights" : Str)) = False := eq_false (by decide +kernel)
@[simp] theorem bq_Beyond_heights : (("Beyond" : Str) == ("heights" : Str)) = false := by decide +kernel
@[simp] theorem ne_Beyond_lines : (("Beyond" : Str) = ("lines" : Str)) = False := eq_false (by decide +kernel)
@[simp] theorem bq_Beyond_lines : (("Beyond" : Str) == ("lines" : Str)) = false := by decide +kernel
@[simp] theorem ne_Beyond_here : (("Beyond" : Str) = ("here" : Str)) = False := eq_false (by decide +kernel)
@[simp] theorem bq_Beyond_here : (("Beyond" : Str) == ("here" : Str)) = false := by decide +kernel
@[simp] theorem ne_Beyond_left : (("Beyond" : Str) = ("left" : Str)) = False := eq_false (by decide +kernel)
@[simp] theorem bq_Beyond_left : (("Beyond" : Str) == ("left" : Str)) = false := by decide +kernel
@[simp] theorem ne_Beyond_do : (("Beyond" : Str) = ("do" : Str)) = False := eq_false (by decide +kernel)
@[simp] theorem bq_Beyond_do : (("Beyond" : Str) == ("do" : Str)) = false := by decide +kernel
@[simp] theorem ne_Beyond_now : (("Beyond" : Str) = ("now" : Str)) = False := eq_false (by decide +kernel)
@[simp] theorem bq_Beyond_now : (("Beyond" : Str) == ("now" : Str)) = false := by decide +kernel
@[simp] theorem ne_Beyond_away : (("Beyond" : Str) = ("away" : Str)) = False := eq_false (by decide +kernel)
@[simp] theorem bq_Beyond_away : (("Beyond" : Str) == ("away" : Str)) = false := by decide +kernel
@[simp] theorem ne_Beyond_done : (("Beyond" : Str) = ("done" : Str)) = False := eq_false (by decide +kernel)
@[simp] theorem bq_Beyond_done : (("Beyond" : Str) == ("done" : Str)) = false := by decide +kernel
@[simp] theorem ne_Beyond_tale : (("Beyond" : Str) = ("tale" : Str)) = False := eq_false (by decide +kernel)
@[simp] theorem bq_Beyond_tale : (("Beyond" : Str) == ("tale" : Str)) = false := by decide +kernel
@[simp] theorem ne_Beyond_Came : (("Beyond" : Str) = ("Came" : Str)) = False := eq_false (by decide +kernel)
@[simp] theorem bq_Beyond_Came : (("Beyond" : Str) == ("Came" : Str)) = false := by decide +kernel
@[simp] theorem ne_Beyond_Barred : (("Beyond" : Str) = ("Barred" : Str)) = False := eq_false (by decide +kernel)
@[simp] theorem bq_Beyond_Barred : (("Beyond" : Str) == ("Barred" : Str)) = false := by decide +kernel
@[simp] theorem ne_Beyond_Within : (("Beyond" : Str) = ("Within" : Str)) = False := eq_false (by decide +kernel)
@[simp] theorem bq_Beyond_Within : (("Beyond" : Str) == ("Within" : Str)) = false := by decide +kernel
@[simp] theorem ne_Beyond_Right : (("Beyond" : Str) = ("Right" : Str)) = False := eq_false (by decide +kernel)
@[simp] theorem bq_Beyond_Right : (("Beyond" : Str) == ("Right" : Str)) = false := by decide +kernel
@[simp] theorem ne_Beyond_Wrong : (("Beyond" : Str) = ("Wrong" : Str)) = False := eq_false (by decide +kernel)
@[simp] theorem bq_Beyond_Wrong : (("Beyond" : Str) == ("Wrong" : Str)) = false := by decide +kernel
@[simp] theorem ne_Beyond_Yard : (("Beyond" : Str) = ("Yard" : Str)) = False := eq_false (by decide +kernel)
@[simp] theorem bq_Beyond_Yard : (("Beyond" : Str) == ("Yard" : Str)) = false := by decide +kernel
@[simp] theorem ne_Right_shows : (("Right" : Str) = ("shows" : Str)) = False := eq_false (by decide +kernel)
@[simp] theorem bq_Right_shows : (("Right" : Str) == ("shows" : Str)) = false := by decide +kernel
@[simp] theorem ne_Right_stand : (("Right" : Str) = ("stand" : Str)) = False := eq_false (by decide +kernel)
@[simp] theorem bq_Right_stand : (("Right" : Str) == ("stand" : Str)) = false := by decide +kernel
@[simp] theorem ne_Right_gone : (("Right" : Str) = ("gone" : Str)) = False := eq_false (by decide +kernel)
@[simp] theorem bq_Right_gone : (("Right" : Str) == ("gone" : Str)) = false := by decide +kernel
@[simp] theorem ne_Right_place : (("Right" : Str) = ("place" : Str)) = False := eq_false (by decide +kernel)
@[simp] theorem bq_Right_place : (("Right" : Str) == ("place" : Str)) = false := by decide +kernel
@[simp] theorem ne_Right_deeds : (("Right" : Str) = ("deeds" : Str)) = False := eq_false (by decide +kernel)
@[simp] theorem bq_Right_deeds : (("Right" : Str) == ("deeds" : Str)) = false := by decide +kernel
@[simp] theorem ne_Right_heights : (("Right" : Str) = ("heights" : Str)) = False := eq_false (by decide +kernel)
@[simp] theorem bq_Right_heights : (("Right" : Str) == ("heights" : Str)) = false := by decide +kernel
@[simp] theorem ne_Right_lines : (("Right" : Str) = ("lines" : Str)) = False := eq_false (by decide +kernel)
@[simp] theorem bq_Right_lines : (("Right" : Str) == ("lines" : Str)) = false := by decide +kernel
@[simp] theorem ne_Right_here : (("Right" : Str) = ("here" : Str)) = False := eq_false (by decide +kernel)
@[simp] theorem bq_Right_here : (("Right" : Str) == ("here" : Str)) = false := by decide +kernel
@[simp] theorem ne_Right_left : (("Right" : Str) = ("left" : Str)) = False := eq_false (by decide +kernel)
@[simp] theorem bq_Right_left : (("Right" : Str) == ("left" : Str)) = false := by decide +kernel
@[simp] theorem ne_Right_do : (("Right" : Str) = ("do" : Str)) = False := eq_false (by decide +kernel)
@[simp] theorem bq_Right_do : (("Right" : Str) == ("do" : Str)) = false := by decide +kernel
@[simp] theorem ne_Right_now : (("Right" : Str) = ("now" : Str)) = False := eq_false (by decide +kernel)
@[simp] theorem bq_Right_now : (("Right" : Str) == ("now" : Str)) = false := by decide +kernel
@[simp] theorem ne_Right_away : (("Right" : Str) = ("away" : Str)) = False := eq_false (by decide +kernel)
@[simp] theorem bq_Right_away : (("Right" : Str) == ("away" : Str)) = false := by decide +kernel
@[simp] theorem ne_Right_done : (("Right" : Str) = ("done" : Str)) = False := eq_false (by decide +kernel)
@[simp] theorem bq_Right_done : (("Right" : Str) == ("done" : Str)) = false := by decide +kernel
@[simp] theorem ne_Right_tale : (("Right" : Str) = ("tale" : Str)) = False := eq_false (by decide +kernel)
@[simp] theorem bq_Right_tale : (("Right" : Str) == ("tale" : Str)) = false := by decide +kernel
@[simp] theorem ne_Right_Came : (("Right" : Str) = ("Came" : Str)) = False := eq_false (by decide +kernel)
@[simp] theorem bq_Right_Came : (("Right" : Str) == ("Came" : Str)) = false := by decide +kernel
@[simp] theorem ne_Right_Barred : (("Right" : Str) = ("Barred" : Str)) = False := eq_false (by decide +kernel)
@[simp] theorem bq_Right_Barred : (("Right" : Str) == ("Barred" : Str)) = false := by decide +kernel
@[simp] theorem ne_Right_Within : (("Right" : Str) = ("Within" : Str)) = False := eq_false (by decide +kernel)
@[simp] theorem bq_Right_Within : (("Right" : Str) == ("Within" : Str)) = false := by decide +kernel
@[simp] theorem ne_Right_Beyond : (("Right" : Str) = ("Beyond" : Str)) = False := eq_false (by decide +kernel)
@[simp] theorem bq_Right_Beyond : (("Right" : Str) == ("Beyond" : Str)) = false := by decide +kernel
@[simp] theorem ne_Right_Wrong : (("Right" : Str) = ("Wrong" : Str)) = False := eq_false (by decide +kernel)
@[simp] theorem bq_Right_Wrong : (("Right" : Str) == ("Wrong" : Str)) = false := by decide +kernel
@[simp] theorem ne_Right_Yard : (("Right" : Str) = ("Yard" : Str)) = False := eq_false (by decide +kernel)
@[simp] theorem bq_Right_Yard : (("Right" : Str) == ("Yard" : Str)) = false := by decide +kernel
@[simp] theorem ne_Wrong_shows : (("Wrong" : Str) = ("shows" : Str)) = False := eq_false (by decide +kernel)
@[simp] theorem bq_Wrong_shows : (("Wrong" : Str) == ("shows" : Str)) = false := by decide +kernel
@[simp] theorem ne_Wrong_stand : (("Wrong" : Str) = ("stand" : Str)) = False := eq_false (by decide +kernel)
@[simp] theorem bq_Wrong_stand : (("Wrong" : Str) == ("stand" : Str)) = false := by decide +kernel
@[simp] theorem ne_Wrong_gone : (("Wrong" : Str) = ("gone" : Str)) = False := eq_false (by decide +kernel)
@[simp] theorem bq_Wrong_gone : (("Wrong" : Str) == ("gone" : Str)) = false := by decide +kernel
@[simp] theorem ne_Wrong_place : (("Wrong" : Str) = ("place" : Str)) = False := eq_false (by decide +kernel)
@[simp] theorem bq_Wrong_place : (("Wrong" : Str) == ("place" : Str)) = false := by decide +kernel
@[simp] theorem ne_Wrong_deeds : (("Wrong" : Str) = ("deeds" : Str)) = False := eq_false (by decide +kernel)
@[simp] theorem bq_Wrong_deeds : (("Wrong" : Str) == ("deeds" : Str)) = false := by decide +kernel
@[simp] theorem ne_Wrong_heights : (("Wrong" : Str) = ("heights" : Str)) = False := eq_false (by decide +kernel)
@[simp] theorem bq_Wrong_heights : (("Wrong" : Str) == ("heights" : Str)) = false := by decide +kernel
@[simp] theorem ne_Wrong_lines : (("Wrong" : Str) = ("lines" : Str)) = False := eq_false (by decide +kernel)
@[simp] theorem bq_Wrong_lines : (("Wrong" : Str) == ("lines" : Str)) = false := by decide +kernel
@[simp] theorem ne_Wrong_here : (("Wrong" : Str) = ("here" : Str)) = False := eq_false (by decide +kernel)
@[simp] theorem bq_Wrong_here : (("Wrong" : Str) == ("here" : Str)) = false := by decide +kernel
@[simp] theorem ne_Wrong_left : (("Wrong" : Str) = ("left" : Str)) = False := eq_false (by decide +kernel)
@[simp] theorem bq_Wrong_left : (("Wrong" : Str) == ("left" : Str)) = false := by decide +kernel
@[simp] theorem ne_Wrong_do : (("Wrong" : Str) = ("do" : Str)) = False := eq_false (by decide +kernel)
@[simp] theorem bq_Wrong_do : (("Wrong" : Str) == ("do" : Str)) = false := by decide +kernel
@[simp] theorem ne_Wrong_now : (("Wrong" : Str) = ("now" : Str)) = False := eq_false (by decide +kernel)
@[simp] theorem bq_Wrong_now : (("Wrong" : Str) == ("now" : Str)) = false := by decide +kernel
@[simp] theorem ne_Wrong_away : (("Wrong" : Str) = ("away" : Str)) = False := eq_false (by decide +kernel)
@[simp] theorem bq_Wrong_away : (("Wrong" : Str) == ("away" : Str)) = false := by decide +kernel
@[simp] theorem ne_Wrong_done : (("Wrong" : Str) = ("done" : Str)) = False := eq_false (by decide +kernel)
@[simp] theorem bq_Wrong_done : (("Wrong" : Str) == ("done" : Str)) = false := by decide +kernel
@[simp] theorem ne_Wrong_tale : (("Wrong" : Str) = ("tale" : Str)) = False := eq_false (by decide +kernel)
@[simp] theorem bq_Wrong_tale : (("Wrong" : Str) == ("tale" : Str)) = false := by decide +kernel
@[simp] theorem ne_Wrong_Came : (("Wrong" : Str) = ("Came" : Str)) = False := eq_false (by decide +kernel)
@[simp] theorem bq_Wrong_Came : (("Wrong" : Str) == ("Came" : Str)) = false := by decide +kernel
@[simp] theorem ne_Wrong_Barred : (("Wrong" : Str) = ("Barred" : Str)) = False := eq_false (by decide +kernel)
@[simp] theorem bq_Wrong_Barred : (("Wrong" : Str) == ("Barred" : Str)) = false := by decide +kernel
@[simp] theorem ne_Wrong_Within : (("Wrong" : Str) = ("Within" : Str)) = False := eq_false (by decide +kernel)
@[simp] theorem bq_Wrong_Within : (("Wrong" : Str) == ("Within" : Str)) = false := by decide +kernel
@[simp] theorem ne_Wrong_Beyond : (("Wrong" : Str) = ("Beyond" : Str)) = False := eq_false (by decide +kernel)
@[simp] theorem bq_Wrong_Beyond : (("Wrong" : Str) == ("Beyond" : Str)) = false := by decide +kernel
@[simp] theorem ne_Wrong_Right : (("Wrong" : Str) = ("Right" : Str)) = False := eq_false (by decide +kernel)
@[simp] theorem bq_Wrong_Right : (("Wrong" : Str) == ("Right" : Str)) = false := by decide +kernel
@[simp] theorem ne_Wrong_Yard : (("Wrong" : Str) = ("Yard" : Str)) = False := eq_false (by decide +kernel)
@[simp] theorem bq_Wrong_Yard : (("Wrong" : Str) == ("Yard" : Str)) = false := by decide +kernel
@[simp] theorem ne_Yard_shows : (("Yard" : Str) = ("shows" : Str)) = False := eq_false (by decide +kernel)
@[simp] theorem bq_Yard_shows : (("Yard" : Str) == ("shows" : Str)) = false := by decide +kernel
@[simp] theorem ne_Yard_stand : (("Yard" : Str) = ("stand" : Str)) = False := eq_false (by decide +kernel)
@[simp] theorem bq_Yard_stand : (("Yard" : Str) == ("stand" : Str)) = false := by decide +kernel
@[simp] theorem ne_Yard_gone : (("Yard" : Str) = ("gone" : Str)) = False := eq_false (by decide +kernel)
@[simp] theorem bq_Yard_gone : (("Yard" : Str) == ("gone" : Str)) = false := by decide +kernel
@[simp] theorem ne_Yard_place : (("Yard" : Str) = ("place" : Str)) = False := eq_false (by decide +kernel)
@[simp] theorem bq_Yard_place : (("Yard" : Str) == ("place" : Str)) = false := by decide +kernel
@[simp] theorem ne_Yard_deeds : (("Yard" : Str) = ("deeds" : Str)) = False := eq_false (by decide +kernel)
@[simp] theorem bq_Yard_deeds : (("Yard" : Str) == ("deeds" : Str)) = false := by decide +kernel
@[simp] theorem ne_Yard_heights : (("Yard" : Str) = ("heights" : Str)) = False := eq_false (by decide +kernel)
@[simp] theorem bq_Yard_heights : (("Yard" : Str) == ("heights" : Str)) = false := by decide +kernel
@[simp] theorem ne_Yard_lines : (("Yard" : Str) = ("lines" : Str)) = False := eq_false (by decide +kernel)
@[simp] theorem bq_Yard_lines : (("Yard" : Str) == ("lines" : Str)) = false := by decide +kernel
@[simp] theorem ne_Yard_here : (("Yard" : Str) = ("here" : Str)) = False := eq_false (by decide +kernel)
@[simp] theorem bq_Yard_here : (("Yard" : Str) == ("here" : Str)) = false := by decide +kernel
@[simp] theorem ne_Yard_left : (("Yard" : Str) = ("left" : Str)) = False := eq_false (by decide +kernel)
@[simp] theorem bq_Yard_left : (("Yard" : Str) == ("left" : Str)) = false := by decide +kernel
@[simp] theorem ne_Yard_do : (("Yard" : Str) = ("do" : Str)) = False := eq_false (by decide +kernel)
@[simp] theorem bq_Yard_do : (("Yard" : Str) == ("do" : Str)) = false := by decide +kernel
@[simp] theorem ne_Yard_now : (("Yard" : Str) = ("now" : Str)) = False := eq_false (by decide +kernel)
@[simp] theorem bq_Yard_now : (("Yard" : Str) == ("now" : Str)) = false := by decide +kernel
@[simp] theorem ne_Yard_away : (("Yard" : Str) = ("away" : Str)) = False := eq_false (by decide +kernel)
@[simp] theorem bq_Yard_away : (("Yard" : Str) == ("away" : Str)) = false := by decide +kernel
@[simp] theorem ne_Yard_done : (("Yard" : Str) = ("done" : Str)) = False := eq_false (by decide +kernel)
@[simp] theorem bq_Yard_done : (("Yard" : Str) == ("done" : Str)) = false := by decide +kernel
@[simp] theorem ne_Yard_tale : (("Yard" : Str) = ("tale" : Str)) = False := eq_false (by decide +kernel)
@[simp] theorem bq_Yard_tale : (("Yard" : Str) == ("tale" : Str)) = false := by decide +kernel
@[simp] theorem ne_Yard_Came : (("Yard" : Str) = ("Came" : Str)) = False := eq_false (by decide +kernel)
@[simp] theorem bq_Yard_Came : (("Yard" : Str) == ("Came" : Str)) = false := by decide +kernel
@[simp] theorem ne_Yard_Barred : (("Yard" : Str) = ("Barred" : Str)) = False := eq_false (by decide +kernel)
@[simp] theorem bq_Yard_Barred : (("Yard" : Str) == ("Barred" : Str)) = false := by decide +kernel
@[simp] theorem ne_Yard_Within : (("Yard" : Str) = ("Within" : Str)) = False := eq_false (by decide +kernel)
@[simp] theorem bq_Yard_Within : (("Yard" : Str) == ("Within" : Str)) = false := by decide +kernel
@[simp] theorem ne_Yard_Beyond : (("Yard" : Str) = ("Beyond" : Str)) = False := eq_false (by decide +kernel)
@[simp] theorem bq_Yard_Beyond : (("Yard" : Str) == ("Beyond" : Str)) = false := by decide +kernel
@[simp] theorem ne_Yard_Right : (("Yard" : Str) = ("Right" : Str)) = False := eq_false (by decide +kernel)
@[simp] theorem bq_Yard_Right : (("Yard" : Str) == ("Right" : Str)) = false := by decide +kernel
@[simp] theorem ne_Yard_Wrong : (("Yard" : Str) = ("Wrong" : Str)) = False := eq_false (by decide +kernel)
@[simp] theorem bq_Yard_Wrong : (("Yard" : Str) == ("Wrong" : Str)) = false := by decide +kernel
@[simp] theorem lookup_ne {α : Type} {a b : Str} {v : α} {l : List (Str × α)} (h : (a == b) = false) : List.lookup a ((b, v) :: l) = List.lookup a l := by rw [List.lookup_cons, h]
end Tb

namespace Lw
open PySem Tb
inductive Wd where
  | left | right | take | put | out
deriving DecidableEq
def Wd.s : Wd → Str
  | .left => "left" | .right => "right" | .take => "take" | .put => "put" | .out => "out"
abbrev Stand := List (List Int) × Nat × Int
def stD (s : Stand) : D := standD s.1 s.2.1 s.2.2
def beh (ls : List (Int × List Int)) (s : Stand) : Wd → Option Stand
  | .left => some (s.1, (((s.2.1 : Int) + -1).fmod ls.length).toNat, s.2.2)
  | .right => some (s.1, (((s.2.1 : Int) + 1).fmod ls.length).toNat, s.2.2)
  | .take => match s.1[s.2.1]? with
    | some (a :: r) => if 0 ≤ s.2.2 then none else some (s.1.set s.2.1 r, s.2.1, a)
    | _ => none
  | .put => match s.1[s.2.1]?, ls[s.2.1]? with
    | some r, some q => if s.2.2 < 0 ∨ q.1 ≤ (r.length : Int) then none else some (s.1.set s.2.1 (s.2.2 :: r), s.2.1, -1)
    | _, _ => none
  | .out => if 0 ≤ s.2.2 ∧ s.2.1 = 0 then some (s.1, s.2.1, -1) else none
def opD (o : Option Stand) : D := match o with
  | some s => stD s
  | none => .non
theorem fmod_nat (x : Int) {n : Nat} (h : 0 < n) : (((x.fmod n).toNat : Nat) : Int) = x.fmod n := Int.toNat_of_nonneg (Int.fmod_nonneg_of_pos x (by omega))
theorem behind_left (ls : List (Int × List Int)) (s : Stand) (lh : LH) (h1 : s.1.length = ls.length) (h2 : s.2.1 < ls.length) (h3 : ls.length ≤ 3) : f_behind [linesD ls, stD s, .str "left"] lh = .ok (opD (beh ls s .left)) lh := by
  obtain ⟨rows, place, e⟩ := s
  have hs : (3 : Nat) ≤ sizeLine := by decide
  have hne : ls ≠ [] := by rintro rfl; simp at h2
  simp [f_behind, m_behind, fnM, stD, standD, linesD, lenG, asS, asL, opD, beh, hne, hs, fmod_nat _ (Nat.lt_of_le_of_lt (Nat.zero_le _) h2)]
theorem behind_right (ls : List (Int × List Int)) (s : Stand) (lh : LH) (h1 : s.1.length = ls.length) (h2 : s.2.1 < ls.length) (h3 : ls.length ≤ 3) : f_behind [linesD ls, stD s, .str "right"] lh = .ok (opD (beh ls s .right)) lh := by
  obtain ⟨rows, place, e⟩ := s
  have hs : (3 : Nat) ≤ sizeLine := by decide
  have hne : ls ≠ [] := by rintro rfl; simp at h2
  simp [f_behind, m_behind, fnM, stD, standD, linesD, lenG, asS, asL, opD, beh, hne, hs, fmod_nat _ (Nat.lt_of_le_of_lt (Nat.zero_le _) h2)]
theorem behind_take (ls : List (Int × List Int)) (s : Stand) (lh : LH) (h1 : s.1.length = ls.length) (h2 : s.2.1 < ls.length) (h3 : ls.length ≤ 3) : f_behind [linesD ls, stD s, .str "take"] lh = .ok (opD (beh ls s .take)) lh := by
  obtain ⟨rows, place, e⟩ := s
  have hs : (3 : Nat) ≤ sizeLine := by decide
  have hs1 : (1 : Nat) ≤ sizeLine := by decide
  simp only at h1 h2
  have hp : place < rows.length := by omega
  have er : rows[place]? = some rows[place] := List.getElem?_eq_getElem hp
  have erD : (rows.map rowD)[place]? = some (rowD rows[place]) := by rw [List.getElem?_map, er]; rfl
  have hl : place < (rows.map rowD).length := by simpa using hp
  have hl3 : (rows.map rowD).length ≤ 3 := by simp; omega
  cases q : rows[place] with
  | nil =>
    rw [q] at er erD
    simp [f_behind, m_behind, fnM, stD, standD, linesD, opD, beh, er, z_ixT erD, eq_row0]
  | cons a r =>
    rw [q] at er erD
    have e0 : ∀ lh, eqG lh (.tup (.int a :: r.map .int)) (.tup []) = .v (.bl false) := fun lh => eq_row0 (a :: r)
    have e1 : D.tup (r.map .int) = rowD r := rfl
    by_cases he : 0 ≤ e
    · simp [f_behind, m_behind, fnM, stD, standD, linesD, opD, beh, er, z_ixT erD, eq_row0, he]
    · simp [f_behind, m_behind, fnM, stD, standD, linesD, opD, beh, er, z_ixT erD, e0, he, hs, hs1, rowD_cons, cut_one, cut_to (Nat.le_of_lt hl), cut_from1 hl, add_a hl hl3, add_b hl hl3, ix_head, List.map_set, e1]
theorem behind_put (ls : List (Int × List Int)) (s : Stand) (lh : LH) (h1 : s.1.length = ls.length) (h2 : s.2.1 < ls.length) (h3 : ls.length ≤ 3) (h4 : ∀ r ∈ s.1, r.length ≤ 2) : f_behind [linesD ls, stD s, .str "put"] lh = .ok (opD (beh ls s .put)) lh := by
  obtain ⟨rows, place, e⟩ := s
  have hs : (3 : Nat) ≤ sizeLine := by decide
  have hs1 : (1 : Nat) ≤ sizeLine := by decide
  simp only at h1 h2 h4
  have hp : place < rows.length := by omega
  have er : rows[place]? = some rows[place] := List.getElem?_eq_getElem hp
  have erD : (rows.map rowD)[place]? = some (rowD rows[place]) := by rw [List.getElem?_map, er]; rfl
  have hl : place < (rows.map rowD).length := by simpa using hp
  have hl3 : (rows.map rowD).length ≤ 3 := by simp; omega
  have h4 := h4 _ (List.getElem_mem hp)
  have eq : ls[place]? = some ls[place] := List.getElem?_eq_getElem h2
  have eqD : (ls.map lineD)[place]? = some (lineD ls[place]) := by rw [List.getElem?_map, eq]; rfl
  generalize rows[place] = r at er erD h4
  generalize ls[place] = q at eq eqD
  have hadd : ∀ lh, addG lh (.tup [.int e]) (rowD r) = .v (rowD (e :: r)) := fun lh => by
    show (if _ then _ else _) = _
    rw [if_pos (le3 (by simp; omega))]
    rfl
  have hlen : ∀ lh, lenG lh [rowD r] = .v (.int r.length) := fun lh => by
    show Ro.v (.int ((r.map D.int).length : Int)) = _
    rw [List.length_map]
  have hq : ∀ lh, ixG lh (lineD q) (.int 0) = .v (.int q.1) := fun lh => ix_head
  by_cases he : e < 0
  · simp [f_behind, m_behind, fnM, stD, standD, linesD, opD, beh, er, eq, z_ixT erD, he]
  · by_cases hf : q.1 ≤ (r.length : Int)
    · simp [f_behind, m_behind, fnM, stD, standD, linesD, opD, beh, er, eq, z_ixT erD, z_ixL eqD, he, hlen, hq, hf]
    · simp [f_behind, m_behind, fnM, stD, standD, linesD, opD, beh, er, eq, z_ixT erD, z_ixL eqD, he, hlen, hq, hf, hs, hs1, hadd, cut_to (Nat.le_of_lt hl), cut_from1 hl, add_a hl hl3, add_b hl hl3, List.map_set]
theorem behind_out (ls : List (Int × List Int)) (s : Stand) (lh : LH) : f_behind [linesD ls, stD s, .str "out"] lh = .ok (opD (beh ls s .out)) lh := by
  obtain ⟨rows, place, e⟩ := s
  have hs : (3 : Nat) ≤ sizeLine := by decide
  by_cases he : 0 ≤ e
  · by_cases hp : place = 0
    · simp [f_behind, m_behind, fnM, stD, standD, linesD, opD, beh, he, hp, hs]
    · have : ((place : Int) == 0) = false := by simpa using hp
      simp [f_behind, m_behind, fnM, stD, standD, linesD, opD, beh, he, hp, hs]
  · simp [f_behind, m_behind, fnM, stD, standD, linesD, opD, beh, he, hs]

/-! ### the law's own -/
theorem lbehind_lr (ls : List (Int × List Int)) (s : Stand) (h1 : s.1.length = ls.length) (h2 : s.2.1 < ls.length) (h3 : ls.length ≤ 3) :
    (∃ lh, f__law_behind [linesD ls, stD s, .str "right"] [] = .ok (opD (beh ls s .right)) lh) ∧ ∃ lh, f__law_behind [linesD ls, stD s, .str "left"] [] = .ok (opD (beh ls s .left)) lh := by
  obtain ⟨rows, place, e⟩ := s
  have hs : (3 : Nat) ≤ sizeLine := by decide
  have hs2 : (2 : Nat) ≤ sizeLine := by decide
  have hne : ls ≠ [] := by rintro rfl; simp at h2
  have ix0 : ∀ lh a b c, ixG lh (.tup [a, b, c]) (.int 0) = .v a := fun lh a b c => z_ixT (i := 0) rfl
  have ix1 : ∀ lh a b c, ixG lh (.tup [a, b, c]) (.int 1) = .v b := fun lh a b c => z_ixT (i := 1) rfl
  have ix2 : ∀ lh a b c, ixG lh (.tup [a, b, c]) (.int 2) = .v c := fun lh a b c => z_ixT (i := 2) rfl
  have hp : 0 < ls.length := Nat.lt_of_le_of_lt (Nat.zero_le _) h2
  have em : ((place : Int) + ((ls.length : Int) - 1)).fmod ls.length = ((place : Int) + -1).fmod ls.length := by
    rw [Int.fmod_eq_emod_of_nonneg _ (by omega), Int.fmod_eq_emod_of_nonneg _ (by omega), show (place : Int) + ((ls.length : Int) - 1) = ((place : Int) + -1) + ls.length by omega]
    first | exact Int.add_emod_right _ _ | exact Int.add_emod_self
  constructor
  · refine ⟨[.lst (rows.map rowD)], ?_⟩
    simp [f__law_behind, m__law_behind, fnM, stD, standD, linesD, lisG, tupG, lenG, asS, asL, lstAt, opD, beh, hne, hs, hs2, ix0, ix1, ix2, fmod_nat _ hp]
  · refine ⟨[.lst (rows.map rowD)], ?_⟩
    simp [f__law_behind, m__law_behind, fnM, stD, standD, linesD, lisG, tupG, lenG, asS, asL, lstAt, opD, beh, hne, hs, hs2, ix0, ix1, ix2, fmod_nat _ hp, em]
theorem lbehind_out (ls : List (Int × List Int)) (s : Stand) (he : -1 ≤ s.2.2) : ∃ lh, f__law_behind [linesD ls, stD s, .str "out"] [] = .ok (opD (beh ls s .out)) lh := by
  obtain ⟨rows, place, e⟩ := s
  have hs : (3 : Nat) ≤ sizeLine := by decide
  have hs2 : (2 : Nat) ≤ sizeLine := by decide
  have ix0 : ∀ lh a b c, ixG lh (.tup [a, b, c]) (.int 0) = .v a := fun lh a b c => z_ixT (i := 0) rfl
  have ix1 : ∀ lh a b c, ixG lh (.tup [a, b, c]) (.int 1) = .v b := fun lh a b c => z_ixT (i := 1) rfl
  have ix2 : ∀ lh a b c, ixG lh (.tup [a, b, c]) (.int 2) = .v c := fun lh a b c => z_ixT (i := 2) rfl
  refine ⟨[.lst (rows.map rowD)], ?_⟩
  simp only at he
  by_cases h : 0 ≤ e
  · have hn : ¬ e = -1 := by omega
    by_cases hp : place = 0
    · simp [f__law_behind, m__law_behind, fnM, stD, standD, linesD, lisG, tupG, lenG, asS, asL, lstAt, opD, beh, hs, hs2, ix0, ix1, ix2, h, hn, hp]
    · simp [f__law_behind, m__law_behind, fnM, stD, standD, linesD, lisG, tupG, lenG, asS, asL, lstAt, opD, beh, hs, hs2, ix0, ix1, ix2, h, hn, hp]
  · have hn : e = -1 := by omega
    simp [f__law_behind, m__law_behind, fnM, stD, standD, linesD, lisG, tupG, lenG, asS, asL, lstAt, opD, beh, hs, hs2, ix0, ix1, ix2, h, hn]
theorem lbehind_take (ls : List (Int × List Int)) (s : Stand) (h1 : s.1.length = ls.length) (h2 : s.2.1 < ls.length) (he : -1 ≤ s.2.2) : ∃ lh, f__law_behind [linesD ls, stD s, .str "take"] [] = .ok (opD (beh ls s .take)) lh := by
  obtain ⟨rows, place, e⟩ := s
  have hs : (3 : Nat) ≤ sizeLine := by decide
  have hs2 : (2 : Nat) ≤ sizeLine := by decide
  have ix0 : ∀ lh a b c, ixG lh (.tup [a, b, c]) (.int 0) = .v a := fun lh a b c => z_ixT (i := 0) rfl
  have ix1 : ∀ lh a b c, ixG lh (.tup [a, b, c]) (.int 1) = .v b := fun lh a b c => z_ixT (i := 1) rfl
  have ix2 : ∀ lh a b c, ixG lh (.tup [a, b, c]) (.int 2) = .v c := fun lh a b c => z_ixT (i := 2) rfl
  simp only at he h1 h2
  have hp : place < rows.length := by omega
  have er : rows[place]? = some rows[place] := List.getElem?_eq_getElem hp
  have erD : (rows.map rowD)[place]? = some (rowD rows[place]) := by rw [List.getElem?_map, er]; rfl
  have hl : place < (rows.map rowD).length := by simpa using hp
  cases q : rows[place] with
  | nil =>
    rw [q] at er erD
    refine ⟨[.lst (rows.map rowD)], ?_⟩
    by_cases h : e = -1
    · simp [f__law_behind, m__law_behind, fnM, stD, standD, linesD, lisG, tupG, lenG, asS, asL, lstAt, opD, beh, hs, hs2, ix0, ix1, ix2, h, er, z_ix0 erD, ne_row0]
    · simp [f__law_behind, m__law_behind, fnM, stD, standD, linesD, lisG, tupG, lenG, asS, asL, lstAt, opD, beh, hs, hs2, ix0, ix1, ix2, h, er, z_ix0 erD, ne_row0]
  | cons a r =>
    rw [q] at er erD
    by_cases h : e = -1
    · have e0 : ∀ lh, neG lh (.tup (.int a :: r.map .int)) (.tup []) = .v (.bl true) := fun lh => ne_row0 (a :: r)
      have e1 : D.tup (r.map .int) = rowD r := rfl
      refine ⟨[.lst ((rows.set place r).map rowD)], ?_⟩
      simp [f__law_behind, m__law_behind, fnM, stD, standD, linesD, lisG, tupG, lenG, asS, asL, lstAt, opD, beh, hs, hs2, ix0, ix1, ix2, h, er, z_ix0 erD, e0, rowD_cons, ix_head, cut_one, z_set0 hl, List.map_set, e1]
    · have h' : 0 ≤ e := by omega
      refine ⟨[.lst (rows.map rowD)], ?_⟩
      simp [f__law_behind, m__law_behind, fnM, stD, standD, linesD, lisG, tupG, lenG, asS, asL, lstAt, opD, beh, hs, hs2, ix0, ix1, ix2, h, h', er]
theorem lbehind_put (ls : List (Int × List Int)) (s : Stand) (h1 : s.1.length = ls.length) (h2 : s.2.1 < ls.length) (h4 : ∀ r ∈ s.1, r.length ≤ 2) (he : -1 ≤ s.2.2) : ∃ lh, f__law_behind [linesD ls, stD s, .str "put"] [] = .ok (opD (beh ls s .put)) lh := by
  obtain ⟨rows, place, e⟩ := s
  have hs : (3 : Nat) ≤ sizeLine := by decide
  have hs1 : (1 : Nat) ≤ sizeLine := by decide
  have hs2 : (2 : Nat) ≤ sizeLine := by decide
  have ix0 : ∀ lh a b c, ixG lh (.tup [a, b, c]) (.int 0) = .v a := fun lh a b c => z_ixT (i := 0) rfl
  have ix1 : ∀ lh a b c, ixG lh (.tup [a, b, c]) (.int 1) = .v b := fun lh a b c => z_ixT (i := 1) rfl
  have ix2 : ∀ lh a b c, ixG lh (.tup [a, b, c]) (.int 2) = .v c := fun lh a b c => z_ixT (i := 2) rfl
  simp only at he h1 h2 h4
  have hp : place < rows.length := by omega
  have er : rows[place]? = some rows[place] := List.getElem?_eq_getElem hp
  have erD : (rows.map rowD)[place]? = some (rowD rows[place]) := by rw [List.getElem?_map, er]; rfl
  have hl : place < (rows.map rowD).length := by simpa using hp
  have h4 := h4 _ (List.getElem_mem hp)
  have eq : ls[place]? = some ls[place] := List.getElem?_eq_getElem h2
  have eqD : (ls.map lineD)[place]? = some (lineD ls[place]) := by rw [List.getElem?_map, eq]; rfl
  generalize rows[place] = r at er erD h4
  generalize ls[place] = q at eq eqD
  have hadd : ∀ lh, addG lh (.tup [.int e]) (rowD r) = .v (rowD (e :: r)) := fun lh => by
    show (if _ then _ else _) = _
    rw [if_pos (le3 (by simp; omega))]
    rfl
  have hlen : ∀ lh, lenG lh [rowD r] = .v (.int r.length) := fun lh => by
    show Ro.v (.int ((r.map D.int).length : Int)) = _
    rw [List.length_map]
  have hq : ∀ lh, ixG lh (lineD q) (.int 0) = .v (.int q.1) := fun lh => ix_head
  by_cases h : e = -1
  · refine ⟨[.lst (rows.map rowD)], ?_⟩
    simp [f__law_behind, m__law_behind, fnM, stD, standD, linesD, lisG, tupG, asS, asL, lstAt, opD, beh, hs, hs2, ix0, ix1, ix2, h, er, eq]
  · have h' : ¬ e < 0 := by omega
    by_cases hf : q.1 ≤ (r.length : Int)
    · have hf' : ¬ (r.length : Int) < q.1 := by omega
      refine ⟨[.lst (rows.map rowD)], ?_⟩
      simp [f__law_behind, m__law_behind, fnM, stD, standD, linesD, lisG, tupG, asS, asL, lstAt, opD, beh, hs, hs2, ix0, ix1, ix2, h, h', er, eq, z_ix0 erD, z_ixL eqD, hlen, hq, hf, hf']
    · have hf' : (r.length : Int) < q.1 := by omega
      refine ⟨[.lst ((rows.set place (e :: r)).map rowD)], ?_⟩
      simp [f__law_behind, m__law_behind, fnM, stD, standD, linesD, lisG, tupG, asS, asL, lstAt, opD, beh, hs, hs1, hs2, ix0, ix1, ix2, h, h', er, eq, z_ix0 erD, z_ixL eqD, hlen, hq, hf, hf', hadd, z_set0 hl, List.map_set]

/-! ### good stands -/
/-- of n rows, of two at most, none below 0 -/
structure Good (n : Nat) (s : Stand) : Prop where
  len : s.1.length = n
  at_ : s.2.1 < n
  row : ∀ r ∈ s.1, r.length ≤ 2 ∧ ∀ z ∈ r, 0 ≤ z
  eng : -1 ≤ s.2.2
structure Yard (ls : List (Int × List Int)) : Prop where
  lo : 0 < ls.length
  hi : ls.length ≤ 3
  room : ∀ q ∈ ls, q.1 ≤ 2
  row : ∀ q ∈ ls, q.2.length ≤ 2 ∧ ∀ z ∈ q.2, 0 ≤ z
theorem beh_good {ls : List (Int × List Int)} {s s' : Stand} (Y : Yard ls) (g : Good ls.length s) (w : Wd) (h : beh ls s w = some s') : Good ls.length s' := by
  obtain ⟨rows, place, e⟩ := s
  obtain ⟨g1, g2, g3, g4⟩ := g
  simp only at g1 g2 g3 g4
  have lo := Y.lo
  have fm : ∀ x : Int, (x.fmod ls.length).toNat < ls.length := fun x => by
    have h1 := Int.fmod_lt_of_pos x (show (0 : Int) < ls.length by omega)
    have h2 := Int.fmod_nonneg_of_pos x (show (0 : Int) < ls.length by omega)
    omega
  have hp : place < rows.length := by omega
  have er : rows[place]? = some rows[place] := List.getElem?_eq_getElem hp
  have hm := g3 _ (List.getElem_mem hp)
  cases w with
  | left =>
    have f1 := fm ((place : Int) + -1)
    cases h
    exact ⟨g1, f1, g3, g4⟩
  | right =>
    have f1 := fm ((place : Int) + 1)
    cases h
    exact ⟨g1, f1, g3, g4⟩
  | take =>
    simp only [beh, er] at h
    cases q : rows[place] with
    | nil => rw [q] at h; cases h
    | cons a r =>
      rw [q] at h hm
      simp only at h
      split at h
      · cases h
      · cases h
        refine ⟨by simp [g1], g2, fun z hz => ?_, ?_⟩
        · rcases List.mem_or_eq_of_mem_set hz with hz | rfl
          · exact g3 z hz
          · exact ⟨by simp at hm; omega, fun y hy => hm.2 y (List.mem_cons_of_mem _ hy)⟩
        · have := hm.2 a List.mem_cons_self
          show -1 ≤ a
          omega
  | put =>
    have eq : ls[place]? = some ls[place] := List.getElem?_eq_getElem g2
    simp only [beh, er, eq] at h
    split at h
    · cases h
    · rename_i hc
      cases h
      have hr := Y.room _ (List.getElem_mem g2)
      have hc2 : ¬ e < 0 := fun z => hc (.inl z)
      have hc3 : ¬ ls[place].1 ≤ (rows[place].length : Int) := fun z => hc (.inr z)
      refine ⟨by simp [g1], g2, fun z hz => ?_, by show (-1 : Int) ≤ -1; omega⟩
      rcases List.mem_or_eq_of_mem_set hz with hz | rfl
      · exact g3 z hz
      · refine ⟨by simp only [List.length_cons]; omega, fun y hy => ?_⟩
        rcases List.mem_cons.mp hy with rfl | hy
        · omega
        · exact hm.2 y hy
  | out =>
    simp only [beh] at h
    split at h
    · cases h; exact ⟨g1, g2, g3, by show (-1 : Int) ≤ -1; omega⟩
    · cases h
theorem behind_ok {ls : List (Int × List Int)} {s : Stand} (Y : Yard ls) (g : Good ls.length s) (w : Wd) (lh : LH) : f_behind [linesD ls, stD s, .str w.s] lh = .ok (opD (beh ls s w)) lh := by
  have hr : ∀ r ∈ s.1, r.length ≤ 2 := fun r hr => (g.row r hr).1
  cases w with
  | left => exact behind_left ls s lh g.len g.at_ Y.hi
  | right => exact behind_right ls s lh g.len g.at_ Y.hi
  | take => exact behind_take ls s lh g.len g.at_ Y.hi
  | put => exact behind_put ls s lh g.len g.at_ Y.hi hr
  | out => exact behind_out ls s lh
theorem lbehind_ok {ls : List (Int × List Int)} {s : Stand} (Y : Yard ls) (g : Good ls.length s) (w : Wd) : ∃ lh, f__law_behind [linesD ls, stD s, .str w.s] [] = .ok (opD (beh ls s w)) lh := by
  have hr : ∀ r ∈ s.1, r.length ≤ 2 := fun r hr => (g.row r hr).1
  cases w with
  | left => exact (lbehind_lr ls s g.len g.at_ Y.hi).2
  | right => exact (lbehind_lr ls s g.len g.at_ Y.hi).1
  | take => exact lbehind_take ls s g.len g.at_ g.eng
  | put => exact lbehind_put ls s g.len g.at_ hr g.eng
  | out => exact lbehind_out ls s g.eng
/-! ### as they stand: no location within -/
theorem frz_ints (lh : LH) (n : Nat) : ∀ r : List Int, mapO (frz lh (n + 1)) (r.map D.int) = some (r.map D.int)
  | [] => rfl
  | a :: r => by
    have := frz_ints lh n r
    simp only [List.map_cons, mapO, frz] at this ⊢
    rw [this]
theorem frz_row (lh : LH) (n : Nat) (r : List Int) : frz lh (n + 2) (rowD r) = some (rowD r) := by
  show (match mapO (frz lh (n + 1)) (r.map D.int) with
    | some ks => some (D.tup ks)
    | none => none) = _
  rw [frz_ints]
  rfl
theorem mapO_all {f : D → Option D} : ∀ {xs : List D}, (∀ x ∈ xs, f x = some x) → mapO f xs = some xs
  | [], _ => rfl
  | x :: xs, h => by
    have := mapO_all (f := f) (xs := xs) fun y hy => h y (List.mem_cons_of_mem _ hy)
    simp only [mapO, h x List.mem_cons_self, this]
theorem frz_tup {lh : LH} {n : Nat} {xs : List D} (h : ∀ x ∈ xs, frz lh n x = some x) : frz lh (n + 1) (.tup xs) = some (.tup xs) := by
  show (match mapO (frz lh n) xs with
    | some ks => some (D.tup ks)
    | none => none) = _
  rw [mapO_all h]
theorem frz_lst {lh : LH} {n : Nat} {xs : List D} (h : ∀ x ∈ xs, frz lh n x = some x) : frz lh (n + 1) (.lst xs) = some (.lst xs) := by
  show (match mapO (frz lh n) xs with
    | some ks => some (D.lst ks)
    | none => none) = _
  rw [mapO_all h]
theorem frz_st (lh : LH) (n : Nat) (s : Stand) : frz lh (n + 4) (stD s) = some (stD s) := by
  refine frz_tup fun x hx => ?_
  simp only [List.mem_cons, List.not_mem_nil, or_false] at hx
  rcases hx with rfl | rfl | rfl
  · refine frz_tup fun x hx => ?_
    obtain ⟨r, _, rfl⟩ := List.mem_map.mp hx
    exact frz_row lh n r
  · rfl
  · rfl
theorem frz_op (lh : LH) (n : Nat) (o : Option Stand) : frz lh (n + 4) (opD o) = some (opD o) := by
  cases o with
  | none => rfl
  | some s => exact frz_st lh n s
theorem frz_lines (lh : LH) (n : Nat) (ls : List (Int × List Int)) : frz lh (n + 4) (linesD ls) = some (linesD ls) := by
  refine frz_lst fun x hx => ?_
  obtain ⟨q, _, rfl⟩ := List.mem_map.mp hx
  refine frz_tup fun x hx => ?_
  simp only [List.mem_cons, List.not_mem_nil, or_false] at hx
  rcases hx with rfl | rfl
  · rfl
  · exact frz_row lh n q.2
theorem callP_of {f : FM} {ds : List D} {d : D} {lh lh' : LH} (h1 : ∀ x ∈ ds, frz [] fuel x = some x) (h2 : f ds [] = .ok d lh') (h3 : frz lh' fuel d = some d) : callP f ds lh = .ok d lh := by
  unfold callP
  rw [mapO_all h1]
  simp only [h2, h3]
theorem args3 {f : D → Option D} {a b c : D} (h1 : f a = some a) (h2 : f b = some b) (h3 : f c = some c) : ∀ x ∈ [a, b, c], f x = some x := fun x hx => by
  simp only [List.mem_cons, List.not_mem_nil, or_false] at hx
  rcases hx with rfl | rfl | rfl <;> assumption
theorem behind_call {ls : List (Int × List Int)} {s : Stand} (Y : Yard ls) (g : Good ls.length s) (w : Wd) (lh : LH) : callP f_behind [linesD ls, stD s, .str w.s] lh = .ok (opD (beh ls s w)) lh :=
  callP_of (args3 (frz_lines _ 8 ls) (frz_st _ 8 s) rfl) (behind_ok Y g w []) (frz_op _ 8 _)
theorem lbehind_call {ls : List (Int × List Int)} {s : Stand} (Y : Yard ls) (g : Good ls.length s) (w : Wd) (lh : LH) : callP f__law_behind [linesD ls, stD s, .str w.s] lh = .ok (opD (beh ls s w)) lh := by
  obtain ⟨lh', h⟩ := lbehind_ok Y g w
  exact callP_of (args3 (frz_lines _ 8 ls) (frz_st _ 8 s) rfl) h (frz_op _ 8 _)
end Lw

namespace Lw
open PySem Tb
/-! ### the first stand, what is gone -/
def fst (ls : List (Int × List Int)) : Stand := (ls.map (·.2), 0, -1)
theorem fst_good {ls : List (Int × List Int)} (Y : Yard ls) : Good ls.length (fst ls) := ⟨by simp [fst], Y.lo, fun r hr => by
  obtain ⟨q, hq, rfl⟩ := List.mem_map.mp hr
  exact Y.row q hq, by show (-1 : Int) ≤ -1; omega⟩
theorem lc_rows (L : Option D) (lh : LH) : ∀ ls : List (Int × List Int), lcL (gbTup (gbCons (gbName 1) (gbCons (gbName 2) gbNil))) tYesD (eVar 2) [1, 2] [L, none, none] (ls.map lineD) lh = some (ls.map fun q => rowD q.2, lh)
  | [] => rfl
  | q :: ls => by
    have ih := lc_rows L lh ls
    show (match lcL (gbTup (gbCons (gbName 1) (gbCons (gbName 2) gbNil))) tYesD (eVar 2) [1, 2] [L, none, none] (ls.map lineD) lh with
      | some (ys, lh) => some (rowD q.2 :: ys, lh)
      | none => none) = _
    rw [ih]
    rfl
theorem first_ok {ls : List (Int × List Int)} (h : ls.length ≤ 3) (lh : LH) : f_first_stand [linesD ls] lh = .ok (stD (fst ls)) lh := by
  have hs : (3 : Nat) ≤ sizeLine := by decide
  have := lc_rows (some (linesD ls)) lh ls
  unfold linesD at this ⊢
  simp [f_first_stand, m_first_stand, fnM, stD, standD, fst, tupG, asS, asL, eLc, lcW, wipeD, fin, hs, le3 h, this]
theorem args1 {f : D → Option D} {a : D} (h1 : f a = some a) : ∀ x ∈ [a], f x = some x := fun x hx => by
  rw [List.mem_singleton.mp hx]
  exact h1
theorem first_call {ls : List (Int × List Int)} (h : ls.length ≤ 3) (lh : LH) : callP f_first_stand [linesD ls] lh = .ok (stD (fst ls)) lh := callP_of (args1 (frz_lines _ 8 ls)) (first_ok h []) (frz_st _ 8 _)
theorem lfirst_call {ls : List (Int × List Int)} (h : ls.length ≤ 3) (lh : LH) : callP f__law_first [linesD ls] lh = .ok (stD (fst ls)) lh := first_call h lh
def gon (ls : List (Int × List Int)) : List Wd → Nat → Stand → List Int → Stand × List Int × Int
  | [], _, s, g => (s, g, -1)
  | w :: ws, i, s, g => match beh ls s w with
    | none => (s, g, (i : Int))
    | some s' => gon ls ws (i + 1) s' (if w = .out then g ++ [s.2.2] else g)
theorem gon_neg (ls : List (Int × List Int)) : ∀ (ws : List Wd) (i : Nat) (s : Stand) (g : List Int), (gon ls ws i s g).2.2 < 0 → (gon ls ws i s g).2.2 = -1
  | [], _, _, _, _ => rfl
  | w :: ws, i, s, g, h => by
    unfold gon at h ⊢
    cases q : beh ls s w with
    | none =>
      rw [q] at h
      have h' : (i : Int) < 0 := h
      omega
    | some s' =>
      rw [q] at h
      exact gon_neg ls ws _ _ _ h
def goneB (F : FM) : SM := (sSeq (sSet 6 (eCallP 3 F (aCons (eVar 0) (aCons (eVar 2) (aCons (eVar 5) aNil)))))
  (sSeq (sIf (t2 isG (eVar 6) (eC .non))
  (sRet (eTup (aCons (eVar 2) (aCons (eVar 3) (aCons (eVar 4) aNil)))))
  sNil)
  (sSeq (sIf (t2 eqG (eVar 5) (eC (.str "out")))
  (sDrop (eMt apG (eVar 3) (e2 false ixG (eVar 2) (eC (.int 2)))))
  sNil)
  (sSet 2 (eVar 6)))))
def wsD (ws : List Wd) : List D := ws.map fun w => .str w.s
theorem is_st (lh : LH) (s : Stand) : isG lh (stD s) .non = .v (.bl false) := rfl
theorem eq_out (lh : LH) (w : Wd) : eqG lh (.str w.s) (.str "out") = .v (.bl (decide (w = .out))) := by cases w <;> kernel_rfl
theorem ix_eng (lh : LH) (s : Stand) : ixG lh (stD s) (.int 2) = .v (.int s.2.2) := z_ixT (i := 2) rfl
theorem gone_loop {ls : List (Int × List Int)} (Y : Yard ls) (F : FM) (hF : ∀ (s : Stand), Good ls.length s → ∀ (w : Wd) (lh : LH), callP F [linesD ls, stD s, .str w.s] lh = .ok (opD (beh ls s w)) lh) (Dd : Option D) :
    ∀ (ws : List Wd) (i : Nat) (s : Stand) (g : List Int) (x4 x5 x6 : Option D), Good ls.length s → g.length + ws.length ≤ 200 →
      ((gon ls ws i s g).2.2 < 0 ∧ ∃ y4 y5 y6, sForL (gbTup (gbCons (gbName 4) (gbCons (gbName 5) gbNil))) (goneB F) (numb i (wsD ws)) [some (linesD ls), Dd, some (stD s), some (.loc 0), x4, x5, x6] [.lst (g.map .int)] = .nx [some (linesD ls), Dd, some (stD (gon ls ws i s g).1), some (.loc 0), y4, y5, y6] [.lst ((gon ls ws i s g).2.1.map .int)]) ∨
      (0 ≤ (gon ls ws i s g).2.2 ∧ sForL (gbTup (gbCons (gbName 4) (gbCons (gbName 5) gbNil))) (goneB F) (numb i (wsD ws)) [some (linesD ls), Dd, some (stD s), some (.loc 0), x4, x5, x6] [.lst (g.map .int)] = .rt (.tup [stD (gon ls ws i s g).1, .loc 0, .int (gon ls ws i s g).2.2]) [.lst ((gon ls ws i s g).2.1.map .int)])
  | [], i, s, g, x4, x5, x6, _, _ => .inl ⟨by show (-1 : Int) < 0; omega, x4, x5, x6, rfl⟩
  | w :: ws, i, s, g, x4, x5, x6, hg, hl => by
    have hs : (3 : Nat) ≤ sizeLine := by decide
    have h200 : (200 : Nat) < sizeLine := by decide
    have hcall := hF s hg w
    have step : sForL (gbTup (gbCons (gbName 4) (gbCons (gbName 5) gbNil))) (goneB F) (numb i (wsD (w :: ws))) [some (linesD ls), Dd, some (stD s), some (.loc 0), x4, x5, x6] [.lst (g.map .int)] =
      stepG (gbTup (gbCons (gbName 4) (gbCons (gbName 5) gbNil))) (goneB F) (.tup [.int (i : Nat), .str w.s]) [some (linesD ls), Dd, some (stD s), some (.loc 0), x4, x5, x6] [.lst (g.map .int)] (sForL (gbTup (gbCons (gbName 4) (gbCons (gbName 5) gbNil))) (goneB F) (numb (i + 1) (wsD ws))) := rfl
    rw [step]
    cases q : beh ls s w with
    | none =>
      right
      rw [q] at hcall
      have eg : gon ls (w :: ws) i s g = (s, g, (i : Int)) := by
        show (match beh ls s w with | none => _ | some s' => _) = _
        rw [q]
      rw [eg]
      refine ⟨by show (0 : Int) ≤ (i : Int); omega, ?_⟩
      simp [stepG, goneB, hcall, opD, isG, hs]
    | some s' =>
      rw [q] at hcall
      have g' := beh_good Y hg w q
      have eg : gon ls (w :: ws) i s g = gon ls ws (i + 1) s' (if w = .out then g ++ [s.2.2] else g) := by
        show (match beh ls s w with | none => _ | some s' => _) = _
        rw [q]
      rw [eg]
      simp only [List.length_cons] at hl
      by_cases hw : w = .out
      · have ih := gone_loop Y F hF Dd ws (i + 1) s' (g ++ [s.2.2]) (some (.int (i : Nat))) (some (.str w.s)) (some (stD s')) g' (by simp; omega)
        rw [if_pos hw]
        have hgl : (g.map D.int).length < sizeLine := by rw [List.length_map]; omega
        have e : stepG (gbTup (gbCons (gbName 4) (gbCons (gbName 5) gbNil))) (goneB F) (.tup [.int (i : Nat), .str w.s]) [some (linesD ls), Dd, some (stD s), some (.loc 0), x4, x5, x6] [.lst (g.map .int)] (sForL (gbTup (gbCons (gbName 4) (gbCons (gbName 5) gbNil))) (goneB F) (numb (i + 1) (wsD ws))) =
          sForL (gbTup (gbCons (gbName 4) (gbCons (gbName 5) gbNil))) (goneB F) (numb (i + 1) (wsD ws)) [some (linesD ls), Dd, some (stD s'), some (.loc 0), some (.int (i : Nat)), some (.str w.s), some (stD s')] [.lst ((g ++ [s.2.2]).map .int)] := by
          rw [hw] at hcall ⊢
          have e1 : Wd.out.s = "out" := rfl
          rw [e1] at hcall ⊢
          simp [stepG, goneB, hcall, opD, is_st, ix_eng, eMt, locL, lstAt, apG, hgl, hs] at hgl ⊢
          simp [hgl]
        rw [e]
        exact ih
      · have ih := gone_loop Y F hF Dd ws (i + 1) s' g (some (.int (i : Nat))) (some (.str w.s)) (some (stD s')) g' (by omega)
        rw [if_neg hw]
        have e : stepG (gbTup (gbCons (gbName 4) (gbCons (gbName 5) gbNil))) (goneB F) (.tup [.int (i : Nat), .str w.s]) [some (linesD ls), Dd, some (stD s), some (.loc 0), x4, x5, x6] [.lst (g.map .int)] (sForL (gbTup (gbCons (gbName 4) (gbCons (gbName 5) gbNil))) (goneB F) (numb (i + 1) (wsD ws))) =
          sForL (gbTup (gbCons (gbName 4) (gbCons (gbName 5) gbNil))) (goneB F) (numb (i + 1) (wsD ws)) [some (linesD ls), Dd, some (stD s'), some (.loc 0), some (.int (i : Nat)), some (.str w.s), some (stD s')] [.lst (g.map .int)] := by
          simp [stepG, goneB, hcall, opD, is_st, eq_out, hw]
        rw [e]
        exact ih

abbrev Go := Stand × List Int × Int
def goD (r : Go) : D := .tup [stD r.1, .lst (r.2.1.map .int), .int r.2.2]
theorem args2 {f : D → Option D} {a b : D} (h1 : f a = some a) (h2 : f b = some b) : ∀ x ∈ [a, b], f x = some x := fun x hx => by
  simp only [List.mem_cons, List.not_mem_nil, or_false] at hx
  rcases hx with rfl | rfl <;> assumption
theorem frz_ws (lh : LH) (n : Nat) (ws : List Wd) : frz lh (n + 2) (.lst (wsD ws)) = some (.lst (wsD ws)) := frz_lst fun x hx => by
  obtain ⟨w, _, rfl⟩ := List.mem_map.mp hx
  rfl
theorem frz_go (s : Stand) (g : List Int) (p : Int) : frz [.lst (g.map .int)] fuel (.tup [stD s, .loc 0, .int p]) = some (goD (s, g, p)) := by
  have h1 := frz_st [.lst (g.map .int)] 7 s
  have h2 : frz [.lst (g.map .int)] 11 (.loc 0) = some (.lst (g.map .int)) := by
    show (match mapO (frz [.lst (g.map .int)] 10) (g.map .int) with
      | some ks => some (D.lst ks)
      | none => none) = _
    rw [frz_ints]
  show (match mapO (frz [.lst (g.map .int)] 11) [stD s, .loc 0, .int p] with
    | some ks => some (D.tup ks)
    | none => none) = _
  simp only [mapO, h1, h2]
  rfl
def goneM (F F1 : FM) : SM := (sSeq (sPar [2, 3] (aCons (eCallP 1 F1 (aCons (eVar 0) aNil)) (aCons (eLst true aNil) aNil)))
  (sSeq (sFor 0 (iEnu (eVar 1)) (gbTup (gbCons (gbName 4) (gbCons (gbName 5) gbNil))) (goneB F))
  (sRet (eTup (aCons (eVar 2) (aCons (eVar 3) (aCons (e1 false negG (eC (.int 1))) aNil)))))))
theorem callP_of2 {f : FM} {ds : List D} {d d' : D} {lh lh' : LH} (h1 : ∀ x ∈ ds, frz [] fuel x = some x) (h2 : f ds [] = .ok d lh') (h3 : frz lh' fuel d = some d') : callP f ds lh = .ok d' lh := by
  unfold callP
  rw [mapO_all h1]
  simp only [h2, h3]
theorem gone_gen {ls : List (Int × List Int)} (Y : Yard ls) (F F1 : FM) (hF : ∀ (s : Stand), Good ls.length s → ∀ (w : Wd) (lh : LH), callP F [linesD ls, stD s, .str w.s] lh = .ok (opD (beh ls s w)) lh) (h1 : ∀ lh, callP F1 [linesD ls] lh = .ok (stD (fst ls)) lh)
    (ws : List Wd) (hw : ws.length ≤ 200) (lh : LH) : callP (fnM 5 (goneM F F1)) [linesD ls, .lst (wsD ws)] lh = .ok (goD (gon ls ws 0 (fst ls) [])) lh := by
  have hs : (3 : Nat) ≤ sizeLine := by decide
  have e : ∃ p, fnM 5 (goneM F F1) [linesD ls, .lst (wsD ws)] [] = .ok (.tup [stD (gon ls ws 0 (fst ls) []).1, .loc 0, .int p]) [.lst ((gon ls ws 0 (fst ls) []).2.1.map .int)] ∧ p = (gon ls ws 0 (fst ls) []).2.2 := by
    have step : fnM 5 (goneM F F1) [linesD ls, .lst (wsD ws)] [] = (match (sForL (gbTup (gbCons (gbName 4) (gbCons (gbName 5) gbNil))) (goneB F) (numb 0 (wsD ws)) [some (linesD ls), some (.lst (wsD ws)), some (stD (fst ls)), some (.loc 0), none, none, none] [.lst (([] : List Int).map .int)]).seq (sRet (eTup (aCons (eVar 2) (aCons (eVar 3) (aCons (e1 false negG (eC (.int 1))) aNil))))) with
        | .nx _ lh => .ok .non lh
        | .rt d lh => .ok d lh
        | .exc c _ lh => .exc c lh
        | .bk _ _ => .stuck
        | .stuck => .stuck) := by
      simp [fnM, goneM, h1, sForW, iEnu, asL]
      try rfl
    rw [step]
    rcases gone_loop Y F hF (some (.lst (wsD ws))) ws 0 (fst ls) [] none none none (fst_good Y) (by simpa using hw) with ⟨hp, y4, y5, y6, e⟩ | ⟨hp, e⟩
    · rw [e]
      have hm : (gon ls ws 0 (fst ls) []).2.2 = -1 := gon_neg _ _ _ _ _ hp
      refine ⟨-1, ?_, hm.symm⟩
      simp [hs]
    · rw [e]
      exact ⟨_, rfl, rfl⟩
  obtain ⟨p, e, rfl⟩ := e
  exact callP_of2 (args2 (frz_lines _ 8 ls) (frz_ws _ 10 ws)) e (frz_go _ _ _)
theorem gone_call {ls : List (Int × List Int)} (Y : Yard ls) (ws : List Wd) (hw : ws.length ≤ 200) (lh : LH) : callP f_gone_by [linesD ls, .lst (wsD ws)] lh = .ok (goD (gon ls ws 0 (fst ls) [])) lh :=
  gone_gen Y f_behind f_first_stand (fun s g w lh => behind_call Y g w lh) (fun lh => first_call Y.hi lh) ws hw lh
theorem lgone_call {ls : List (Int × List Int)} (Y : Yard ls) (ws : List Wd) (hw : ws.length ≤ 200) (lh : LH) : callP f__law_gone [linesD ls, .lst (wsD ws)] lh = .ok (goD (gon ls ws 0 (fst ls) [])) lh :=
  gone_gen Y f__law_behind f__law_first (fun s g w lh => lbehind_call Y g w lh) (fun lh => lfirst_call Y.hi lh) ws hw lh
end Lw

namespace Lw
open PySem Tb
/-! ### draws -/
theorem ix_some {xs : List D} {i : Int} (h0 : 0 ≤ i) (h1 : i < xs.length) : ∃ z ∈ xs, ∀ lh, ixG lh (.tup xs) (.int i) = .v z := by
  obtain ⟨k, rfl⟩ := Int.eq_ofNat_of_zero_le h0
  have hk : k < xs.length := by omega
  exact ⟨xs[k], List.getElem_mem hk, fun lh => z_ixT (List.getElem?_eq_getElem hk)⟩
theorem ix_someL {xs : List D} {i : Int} (h0 : 0 ≤ i) (h1 : i < xs.length) : ∃ z ∈ xs, ∀ lh, ixG lh (.lst xs) (.int i) = .v z := by
  obtain ⟨k, rfl⟩ := Int.eq_ofNat_of_zero_le h0
  have hk : k < xs.length := by omega
  exact ⟨xs[k], List.getElem_mem hk, fun lh => z_ixL (List.getElem?_eq_getElem hk)⟩
theorem fm0 (x : Int) {n : Int} (h : 0 < n) : 0 ≤ x.fmod n := Int.fmod_nonneg_of_pos x h
theorem fm1 (x : Int) {n : Int} (h : 0 < n) : x.fmod n < n := Int.fmod_lt_of_pos x h
theorem draw_ok (c k m : Int) (hm : 0 < m) (lh : LH) : ∃ v, 0 ≤ v ∧ v < m ∧ f__law_draw [.int c, .int k, .int m] lh = .ok (.int v) lh := by
  have hs : (16 : Nat) ≤ sizeLine := by decide
  obtain ⟨z, hz, hi⟩ := ix_some (xs := [.int 1000003, .int 1000033, .int 1000037, .int 1000039, .int 1000081, .int 1000099, .int 1000117, .int 1000121, .int 1000133, .int 1000151, .int 1000159, .int 1000171, .int 1000183, .int 1000187, .int 1000193, .int 1000199]) (fm0 k (n := 16) (by omega)) (fm1 k (n := 16) (by omega))
  have hq : ∃ q : Int, 0 < q ∧ z = .int q := by
    simp only [List.mem_cons, List.not_mem_nil, or_false] at hz
    rcases hz with h | h | h | h | h | h | h | h | h | h | h | h | h | h | h | h <;> exact ⟨_, by decide, h⟩
  obtain ⟨q, hq0, rfl⟩ := hq
  have hq1 : q ≠ 0 := by omega
  have hm1 : m ≠ 0 := by omega
  refine ⟨((c * 48271 + k * 69621).fmod q).fmod m, fm0 _ hm, fm1 _ hm, ?_⟩
  simp [f__law_draw, m__law_draw, fnM, hs, hi, hq1, hm1]
theorem draw_call (c k m : Int) (hm : 0 < m) : ∃ v, 0 ≤ v ∧ v < m ∧ ∀ lh, callP f__law_draw [.int c, .int k, .int m] lh = .ok (.int v) lh := by
  obtain ⟨v, h1, h2, h3⟩ := draw_ok c k m hm []
  exact ⟨v, h1, h2, fun lh => callP_of (args3 rfl rfl rfl) h3 rfl⟩
theorem pow18 (lh : LH) : powG lh (.int 10) (.int 18) = .v (.int 1000000000000000000) := by kernel_rfl
theorem number_ok (c k l : Int) (hl : 0 < l) (hk : 0 ≤ k) (hk2 : k ≤ 1000000) : ∃ v, 0 ≤ v ∧ v < l ∧ f__law_number [.int c, .int k, .int l] [] = .ok (.int v) [] := by
  have hs : (5 : Nat) ≤ sizeLine := by decide
  have hl1 : l ≠ 0 := by omega
  by_cases hc : 1000000000000000000 ≤ c
  · obtain ⟨z, hz, hi⟩ := ix_some (xs := [.int 1, .int 7, .int 49, .int 343, .int 2401]) (fm0 k (n := 5) (by omega)) (fm1 k (n := 5) (by omega))
    have hq : ∃ q : Int, (q ≠ 0 ∧ q.natAbs < 1073741824) ∧ z = .int q := by
      simp only [List.mem_cons, List.not_mem_nil, or_false] at hz
      rcases hz with h | h | h | h | h <;> exact ⟨_, by decide, h⟩
    obtain ⟨q, hq0, rfl⟩ := hq
    refine ⟨((c - 1000000000000000000).fdiv q).fmod l, fm0 _ hl, fm1 _ hl, ?_⟩
    simp [f__law_number, m__law_number, fnM, hs, pow18, hc, hi, hq0, hl1]
  · have a1 := fm0 c (n := 1000003) (by omega)
    have a2 := fm1 c (n := 1000003) (by omega)
    have a3 := fm0 k (n := 9) (by omega)
    obtain ⟨v, h1, h2, h3⟩ := draw_call ((c.fmod 1000003 + 977 * k) * (c.fmod 1000003 + 31 * k + 5)) (k.fmod 9 + 1) 999983 (by omega)
    refine ⟨v.fmod l, fm0 _ hl, fm1 _ hl, ?_⟩
    have m1 : -(2 ^ 64) < (c.fmod 1000003 + 977 * k) ∧ (c.fmod 1000003 + 977 * k) < 2 ^ 64 := by omega
    simp [f__law_number, m__law_number, fnM, hs, pow18, hc, h3, hl1] at m1 ⊢
    simp [m1, h3, hl1]
theorem number_call (c k l : Int) (hl : 0 < l) (hk : 0 ≤ k) (hk2 : k ≤ 1000000) : ∃ v, 0 ≤ v ∧ v < l ∧ ∀ lh, callP f__law_number [.int c, .int k, .int l] lh = .ok (.int v) lh := by
  obtain ⟨v, h1, h2, h3⟩ := number_ok c k l hl hk hk2
  exact ⟨v, h1, h2, fun lh => callP_of (args3 rfl rfl rfl) h3 rfl⟩
/-- a script -/
def scD (ns : List Int) : D := .scr (ns.map .int)
theorem frz_sc (lh : LH) (n : Nat) (ns : List Int) : frz lh (n + 2) (scD ns) = some (scD ns) := by
  show (match mapO (frz lh (n + 1)) (ns.map D.int) with
    | some ks => some (D.scr ks)
    | none => none) = _
  rw [frz_ints]
  rfl
theorem cell_call (ns : List Int) (k : Nat) : ∃ v, ∀ lh, callP f__law_cell_at [scD ns, .int (k : Int)] lh = .ok (.int v) lh := by
  have e : ∃ v, f__law_cell_at [scD ns, .int (k : Int)] [] = .ok (.int v) [] := by
    have hl : ∀ lh, lenG lh [scD ns] = .v (.int ns.length) := fun lh => by
      show Ro.v (.int ((ns.map D.int).length : Int)) = _
      rw [List.length_map]
    by_cases h : k < ns.length
    · have ix : ∀ lh, ixG lh (scD ns) (.int (k : Int)) = .v (.int ns[k]) := fun lh => by
        have : (ns.map D.int)[k]? = some (.int ns[k]) := by rw [List.getElem?_map, List.getElem?_eq_getElem h]; rfl
        unfold ixG asS scD
        simp [asL, ix_nat this]
      have h' : (k : Int) < (ns.length : Int) := by omega
      exact ⟨ns[k], by simp [f__law_cell_at, m__law_cell_at, fnM, hl, ix, h', h]⟩
    · exact ⟨0, by simp [f__law_cell_at, m__law_cell_at, fnM, hl, h]⟩
  obtain ⟨v, e⟩ := e
  exact ⟨v, fun lh => callP_of (args2 (frz_sc _ 10 ns) rfl) e rfl⟩
end Lw

namespace Lw
open PySem Tb
/-! ### yards -/
def wC : TM := (t2 eqG (eCall false lenG (aCons (e2 false ixG (eVar 9) (eVar 12)) aNil)) (e2 false ixG (eVar 6) (eVar 12)))
def wB : SM := (sSet 12 (e2 false modG (e2 false addG (eVar 12) (eC (.int 1))) (eCall false lenG (aCons (eVar 6) aNil))))
def yardB : SM := (sSeq (sSet 12 (eCallP 3 f__law_number (aCons (eVar 3) (aCons (e2 false addG (e2 false addG (eVar 1) (eVar 10)) (eC (.int 4))) (aCons (eCall false lenG (aCons (eVar 6) aNil)) aNil)))))
  (sSeq (sWhile 4 wC wB)
  (sPut (e2 false addG (eTup (aCons (eVar 11) aNil)) (e2 false ixG (eVar 9) (eVar 12))) (eVar 9) (eVar 12))))
/-- the state within the loop -/
def yT (ns : List Int) (b : Int) (x2 : Option D) (cell : Int) (x4 x5 : Option D) (R : List Int) (x7 x8 x10 x11 x12 x13 : Option D) : Tau :=
  [some (scD ns), some (.int b), x2, some (.int cell), x4, x5, some (.lst (R.map .int)), x7, x8, some (.loc 0), x10, x11, x12, x13]
/-- the first place that has room -/
def fnd (R : List Int) (rows : List (List Int)) : Nat → Nat → Option Nat
  | 0, _ => none
  | k + 1, p => match rows[p]?, R[p]? with
    | some r, some q => if (r.length : Int) = q then fnd R rows k ((p + 1) % R.length) else some p
    | _, _ => none
theorem wC_ok {ns : List Int} {b : Int} {x2 : Option D} {cell : Int} {x4 x5 : Option D} {R : List Int} {x7 x8 x10 x11 x13 : Option D} {rows : List (List Int)} {p : Nat} {r : List Int} {q : Int} (h1 : rows[p]? = some r) (h2 : R[p]? = some q) :
    wC (yT ns b x2 cell x4 x5 R x7 x8 x10 x11 (some (.int (p : Nat))) x13) [.lst (rows.map rowD)] = .ok (decide ((r.length : Int) = q)) [.lst (rows.map rowD)] := by
  have e1 : (rows.map rowD)[p]? = some (rowD r) := by rw [List.getElem?_map, h1]; rfl
  have e2 : (R.map D.int)[p]? = some (.int q) := by rw [List.getElem?_map, h2]; rfl
  have hlen : ∀ lh, lenG lh [rowD r] = .v (.int r.length) := fun lh => by
    show Ro.v (.int ((r.map D.int).length : Int)) = _
    rw [List.length_map]
  simp [wC, yT, z_ix0 e1, z_ixL e2, hlen]
  try rfl
theorem wB_ok {ns : List Int} {b : Int} {x2 : Option D} {cell : Int} {x4 x5 : Option D} {R : List Int} {x7 x8 x10 x11 x13 : Option D} {p : Nat} {lh : LH} (hR : 0 < R.length) :
    wB (yT ns b x2 cell x4 x5 R x7 x8 x10 x11 (some (.int (p : Nat))) x13) lh = .nx (yT ns b x2 cell x4 x5 R x7 x8 x10 x11 (some (.int (((p + 1) % R.length : Nat) : Int))) x13) lh := by
  have hlen : ∀ lh, lenG lh [.lst (R.map .int)] = .v (.int R.length) := fun lh => by
    show Ro.v (.int ((R.map D.int).length : Int)) = _
    rw [List.length_map]
  have hne : R ≠ [] := by rintro rfl; simp at hR
  have em : (((p : Int) + 1).fmod R.length) = (((p + 1) % R.length : Nat) : Int) := by
    rw [Int.fmod_eq_emod_of_nonneg _ (by omega), Int.natCast_emod, Int.natCast_add]
    rfl
  simp [wB, yT, hlen, hne, em]
theorem while_ok {ns : List Int} {b : Int} {x2 : Option D} {cell : Int} {x4 x5 : Option D} {R : List Int} {x7 x8 x10 x11 x13 : Option D} {rows : List (List Int)} (hR : 0 < R.length) (hl : rows.length = R.length) : ∀ (k p p' : Nat), p < R.length → fnd R rows k p = some p' →
    sWhile k wC wB (yT ns b x2 cell x4 x5 R x7 x8 x10 x11 (some (.int (p : Nat))) x13) [.lst (rows.map rowD)] = .nx (yT ns b x2 cell x4 x5 R x7 x8 x10 x11 (some (.int (p' : Nat))) x13) [.lst (rows.map rowD)] ∧ p' < R.length ∧ ∃ r q, rows[p']? = some r ∧ R[p']? = some q ∧ ¬ (r.length : Int) = q
  | 0, p, p', hp, h => by cases h
  | k + 1, p, p', hp, h => by
    have h1 : rows[p]? = some rows[p] := List.getElem?_eq_getElem (by omega)
    have h2 : R[p]? = some R[p] := List.getElem?_eq_getElem hp
    unfold fnd at h
    rw [h1, h2] at h
    simp only at h
    unfold sWhile
    rw [wC_ok h1 h2]
    by_cases hq : (rows[p].length : Int) = R[p]
    · rw [if_pos hq] at h
      have ih := while_ok (ns := ns) (b := b) (x2 := x2) (cell := cell) (x4 := x4) (x5 := x5) (x7 := x7) (x8 := x8) (x10 := x10) (x11 := x11) (x13 := x13) hR hl k ((p + 1) % R.length) p' (Nat.mod_lt _ hR) h
      refine ⟨?_, ih.2⟩
      rw [← ih.1]
      simp only [z_toS, hq, decide_true, if_true, wB_ok hR]
    · rw [if_neg hq] at h
      cases h
      refine ⟨?_, hp, _, _, h1, h2, hq⟩
      simp only [z_toS, hq, decide_false]
      rfl
/-- how much lies in the rows -/
def tot (rows : List (List Int)) : Nat := (rows.map List.length).sum
structure Rows (R : List Int) (rows : List (List Int)) : Prop where
  len : rows.length = R.length
  fit : ∀ (j : Nat) (r : List Int) (q : Int), rows[j]? = some r → R[j]? = some q → (r.length : Int) ≤ q
  nat : ∀ r ∈ rows, ∀ z ∈ r, 0 ≤ z
theorem fnd_some {R : List Int} {rows : List (List Int)} (h : Rows R rows) (hR : R.length = 2 ∨ R.length = 3) (ht : (tot rows : Int) < R.sum) (p : Nat) (hp : p < R.length) : ∃ p', fnd R rows 4 p = some p' := by
  have hl := h.len
  rcases hR with hR | hR
  · match R, rows, hR, hl with
    | [a, b], [r, t], _, _ =>
      have f0 := h.fit 0 r a rfl rfl
      have f1 := h.fit 1 t b rfl rfl
      simp [tot] at ht
      simp only [List.length_cons, List.length_nil] at hp
      have : p = 0 ∨ p = 1 := by omega
      by_cases e0 : (r.length : Int) = a
      · have e1 : ¬ (t.length : Int) = b := by omega
        rcases this with rfl | rfl <;> simp [fnd, e0, e1]
      · by_cases e1 : (t.length : Int) = b
        · rcases this with rfl | rfl <;> simp [fnd, e0, e1]
        · rcases this with rfl | rfl <;> simp [fnd, e0, e1]
  · match R, rows, hR, hl with
    | [a, b, c], [r, t, u], _, _ =>
      have f0 := h.fit 0 r a rfl rfl
      have f1 := h.fit 1 t b rfl rfl
      have f2 := h.fit 2 u c rfl rfl
      simp [tot] at ht
      simp only [List.length_cons, List.length_nil] at hp
      have : p = 0 ∨ p = 1 ∨ p = 2 := by omega
      by_cases e0 : (r.length : Int) = a <;> by_cases e1 : (t.length : Int) = b <;> by_cases e2 : (u.length : Int) = c
      · omega
      all_goals rcases this with rfl | rfl | rfl <;> simp [fnd, e0, e1, e2]

theorem tot_set : ∀ {rows : List (List Int)} {p : Nat} {r : List Int} (a : Int), rows[p]? = some r → tot (rows.set p (a :: r)) = tot rows + 1
  | [], p, r, a, h => by simp at h
  | t :: rows, 0, r, a, h => by
    simp at h
    subst h
    simp [tot]
    omega
  | t :: rows, p + 1, r, a, h => by
    have ih := tot_set (rows := rows) (p := p) a (by simpa using h)
    simp [tot] at ih ⊢
    omega
theorem rows_set {R : List Int} {rows : List (List Int)} (h : Rows R rows) {p : Nat} {r : List Int} {q a : Int} (h1 : rows[p]? = some r) (h2 : R[p]? = some q) (hn : ¬ (r.length : Int) = q) (ha : 0 ≤ a) : Rows R (rows.set p (a :: r)) := by
  have hp := (List.getElem?_eq_some_iff.mp h1).1
  refine ⟨by simp [h.len], fun j t x e1 e2 => ?_, fun t ht z hz => ?_⟩
  · by_cases hj : j = p
    · subst hj
      rw [List.getElem?_set_self hp] at e1
      cases e1
      rw [h2] at e2
      cases e2
      have := h.fit j r q h1 h2
      simp only [List.length_cons]
      omega
    · rw [List.getElem?_set_ne (Ne.symm hj)] at e1
      exact h.fit j t x e1 e2
  · rcases List.mem_or_eq_of_mem_set ht with ht | rfl
    · exact h.nat t ht z hz
    · rcases List.mem_cons.mp hz with rfl | hz
      · exact ha
      · exact h.nat r (List.mem_of_getElem? h1) z hz
def plc (R : List Int) : List Int → List (List Int) → List (List (List Int))
  | [], rows => [rows]
  | a :: L, rows => (List.range R.length).flatMap fun p => match fnd R rows 4 p with
    | some p' => (match rows[p']? with
      | some r => plc R L (rows.set p' (a :: r))
      | none => [])
    | none => []
theorem yard_loop {ns : List Int} {b : Nat} (hb : b ≤ 100) {x2 : Option D} {cell : Int} {x4 x5 : Option D} {R : List Int} (hR : R.length = 2 ∨ R.length = 3) (hq : ∀ q ∈ R, q ≤ 2) {x7 x8 x13 : Option D} :
    ∀ (L : List Int) (i : Nat) (rows : List (List Int)) (x10 x11 x12 : Option D), i + L.length ≤ 100 → (∀ z ∈ L, 0 ≤ z) → Rows R rows → (tot rows : Int) + L.length ≤ R.sum →
      ∃ rows' y10 y11 y12, Rows R rows' ∧ rows' ∈ plc R L rows ∧ sForL (gbTup (gbCons (gbName 10) (gbCons (gbName 11) gbNil))) yardB (numb i (L.map .int)) (yT ns (b : Nat) x2 cell x4 x5 R x7 x8 x10 x11 x12 x13) [.lst (rows.map rowD)] = .nx (yT ns (b : Nat) x2 cell x4 x5 R x7 x8 y10 y11 y12 x13) [.lst (rows'.map rowD)]
  | [], i, rows, x10, x11, x12, _, _, hr, _ => ⟨rows, x10, x11, x12, hr, by simp [plc], rfl⟩
  | a :: L, i, rows, x10, x11, x12, hi, hL, hr, ht => by
    simp only [List.length_cons] at hi ht
    have hR0 : 0 < R.length := by omega
    obtain ⟨v, v0, v1, hv⟩ := number_call cell ((b : Int) + (i : Int) + 4) R.length (by omega) (by omega) (by omega)
    obtain ⟨p, rfl⟩ := Int.eq_ofNat_of_zero_le v0
    obtain ⟨p', hp'⟩ := fnd_some hr hR (by omega) p (by omega)
    obtain ⟨hw, p'l, r, q, eW, eR, hn⟩ := while_ok (ns := ns) (b := (b : Int)) (x2 := x2) (cell := cell) (x4 := x4) (x5 := x5) (x7 := x7) (x8 := x8) (x10 := some (.int (i : Nat))) (x11 := some (.int a)) (x13 := x13) hR0 hr.len 4 p p' (by omega) hp'
    have ha : 0 ≤ a := hL a List.mem_cons_self
    have hr' := rows_set hr eW eR hn ha
    have ht' := tot_set a eW
    obtain ⟨rows', y10, y11, y12, h1, hmem, h2⟩ := yard_loop hb hR hq L (i + 1) (rows.set p' (a :: r)) (some (.int (i : Nat))) (some (.int a)) (some (.int (p' : Nat))) (by omega) (fun z hz => hL z (List.mem_cons_of_mem _ hz)) hr' (by rw [ht']; omega)
    refine ⟨rows', y10, y11, y12, h1, ?_, ?_⟩
    · rw [plc, List.mem_flatMap]
      refine ⟨p, List.mem_range.mpr (by omega), ?_⟩
      rw [hp']
      simp only [eW]
      exact hmem
    rw [← h2]
    have hlen : ∀ lh, lenG lh [.lst (R.map .int)] = .v (.int R.length) := fun lh => by
      show Ro.v (.int ((R.map D.int).length : Int)) = _
      rw [List.length_map]
    have er : (rows.map rowD)[p']? = some (rowD r) := by rw [List.getElem?_map, eW]; rfl
    have hpl : p' < (rows.map rowD).length := by rw [List.length_map, hr.len]; exact p'l
    have hrl : (r.length : Int) ≤ 2 := by
      have := hr.fit p' r q eW eR
      have := hq q (List.mem_of_getElem? eR)
      omega
    have hadd : ∀ lh, addG lh (.tup [.int a]) (rowD r) = .v (rowD (a :: r)) := fun lh => by
      show (if _ then _ else _) = _
      rw [if_pos (le3 (by simp; omega))]
      rfl
    have hs1 : (1 : Nat) ≤ sizeLine := by decide
    have step : sForL (gbTup (gbCons (gbName 10) (gbCons (gbName 11) gbNil))) yardB (numb i ((a :: L).map .int)) (yT ns (b : Nat) x2 cell x4 x5 R x7 x8 x10 x11 x12 x13) [.lst (rows.map rowD)] =
      stepG (gbTup (gbCons (gbName 10) (gbCons (gbName 11) gbNil))) yardB (.tup [.int (i : Nat), .int a]) (yT ns (b : Nat) x2 cell x4 x5 R x7 x8 x10 x11 x12 x13) [.lst (rows.map rowD)] (sForL (gbTup (gbCons (gbName 10) (gbCons (gbName 11) gbNil))) yardB (numb (i + 1) (L.map .int))) := rfl
    rw [step]
    have b1 : yardB (yT ns (b : Nat) x2 cell x4 x5 R x7 x8 (some (.int (i : Nat))) (some (.int a)) x12 x13) [.lst (rows.map rowD)] = .nx (yT ns (b : Nat) x2 cell x4 x5 R x7 x8 (some (.int (i : Nat))) (some (.int a)) (some (.int (p' : Nat))) x13) [.lst ((rows.set p' (a :: r)).map rowD)] := by
      have s1 : (sSet 12 (eCallP 3 f__law_number (aCons (eVar 3) (aCons (e2 false addG (e2 false addG (eVar 1) (eVar 10)) (eC (.int 4))) (aCons (eCall false lenG (aCons (eVar 6) aNil)) aNil))))) (yT ns (b : Nat) x2 cell x4 x5 R x7 x8 (some (.int (i : Nat))) (some (.int a)) x12 x13) [.lst (rows.map rowD)] = .nx (yT ns (b : Nat) x2 cell x4 x5 R x7 x8 (some (.int (i : Nat))) (some (.int a)) (some (.int (p : Nat))) x13) [.lst (rows.map rowD)] := by
        simp [yT, hlen, hv]
        try rfl
      unfold yardB
      rw [z_seq, s1, z_sq1, z_seq, hw, z_sq1]
      simp [yT, z_ix0 er, hadd, hs1, z_set0 hpl, List.map_set]
    unfold stepG
    have g1 : gbTup (gbCons (gbName 10) (gbCons (gbName 11) gbNil)) [.lst (rows.map rowD)] (.tup [.int (i : Nat), .int a]) = some [(10, .int (i : Nat)), (11, .int a)] := rfl
    rw [g1]
    have g2 : setAll (yT ns (b : Nat) x2 cell x4 x5 R x7 x8 x10 x11 x12 x13) [10, 11] [.int (i : Nat), .int a] = yT ns (b : Nat) x2 cell x4 x5 R x7 x8 (some (.int (i : Nat))) (some (.int a)) x12 x13 := rfl
    show (match yardB (setAll (yT ns (b : Nat) x2 cell x4 x5 R x7 x8 x10 x11 x12 x13) [10, 11] [.int (i : Nat), .int a]) [.lst (rows.map rowD)] with
      | .nx τ lh => _ | .bk τ lh => _ | .rt d lh => _ | .exc c τ lh => _ | .stuck => _) = _
    rw [g2, b1]

/-! ### the whole of a yard -/
theorem sum_ints (lh : LH) (R : List Int) : sumG lh [.lst (R.map .int)] = .v (.int R.sum) := by
  have h : ∀ R : List Int, mapO intOf (R.map D.int) = some R := by
    intro R
    induction R with
    | nil => rfl
    | cons a R ih => simp only [List.map_cons, mapO, ih]; rfl
  show (match mapO intOf (R.map D.int) with | some ns => Ro.v (.int ns.sum) | none => .no) = _
  rw [h]
theorem numb_ints (i : Nat) (L : List Int) : numb i (L.map .int) = numb i (L.map .int) := rfl
theorem lc_empty (L : List (Option D)) (lh : LH) (hL : L.length = 14) : ∀ ds : List D, lcL (gbName 13) tYesD (eTup aNil) [13] (wipeD L [13]) ds lh = some (ds.map fun _ => D.tup [], lh)
  | [] => rfl
  | d :: ds => by
    have ih := lc_empty L lh hL ds
    show (match lcL (gbName 13) tYesD (eTup aNil) [13] (wipeD L [13]) ds lh with
      | some (ys, lh) => some (D.tup [] :: ys, lh)
      | none => none) = _
    rw [ih]
    rfl
theorem zip_lines : ∀ (R : List Int) (rows : List (List Int)), zipD (R.map .int) (rows.map rowD) = (R.zip rows).map lineD
  | [], rows => by simp [zipD]
  | a :: R, [] => by simp [zipD]
  | a :: R, r :: rows => by
    show D.tup [.int a, rowD r] :: zipD (R.map .int) (rows.map rowD) = _
    rw [zip_lines R rows]
    rfl
theorem rngD (n : Nat) : intsD 0 n = ((List.range n).map fun i => ((i : Nat) : Int)).map .int := by
  unfold intsD
  rw [List.map_map]
  apply List.map_congr_left
  intro i _
  simp
/-- rooms that are drawn -/
def rmAll : List (List Int) := [[2, 2], [1, 2], [2, 1], [1, 1], [2, 1, 1], [1, 2, 1], [1, 1, 2], [1, 1, 1]]
def nmsAll : List (List Int) := [[0], [0, 1], [1, 0], [0, 1, 2], [1, 2, 0], [2, 0, 1], [2, 1, 0], [0, 2, 1], [1, 0, 2]]
structure Rm (R : List Int) : Prop where
  mem : R ∈ rmAll
  len : R.length = 2 ∨ R.length = 3
  q : ∀ q ∈ R, 1 ≤ q ∧ q ≤ 2
theorem rm_sum {R : List Int} (h : Rm R) : 2 ≤ R.sum ∧ R.sum ≤ 6 := by
  obtain ⟨_, hl, hq⟩ := h
  rcases hl with hl | hl
  · match R, hl with
    | [a, b], _ =>
      have h1 := hq a (by simp)
      have h2 := hq b (by simp)
      simp
      omega
  · match R, hl with
    | [a, b, c], _ =>
      have h1 := hq a (by simp)
      have h2 := hq b (by simp)
      have h3 := hq c (by simp)
      simp
      omega
def yardHead : SM := (sIf (tOf (eVar 2))
  (sSet 6 (e2 false ixG (eLst false (aCons (eLst false (aCons (eC (.int 2)) (aCons (eC (.int 1)) (aCons (eC (.int 1)) aNil)))) (aCons (eLst false (aCons (eC (.int 1)) (aCons (eC (.int 2)) (aCons (eC (.int 1)) aNil)))) (aCons (eLst false (aCons (eC (.int 1)) (aCons (eC (.int 1)) (aCons (eC (.int 2)) aNil)))) (aCons (eLst false (aCons (eC (.int 1)) (aCons (eC (.int 1)) (aCons (eC (.int 1)) aNil)))) (aCons (eLst false (aCons (eC (.int 2)) (aCons (eC (.int 1)) (aCons (eC (.int 1)) aNil)))) aNil)))))) (eVar 4)))
  sNil)
def yardEnd : SM := (sSeq (sFor 0 (iEnu (eVar 7)) (gbTup (gbCons (gbName 10) (gbCons (gbName 11) gbNil))) yardB)
  (sRet (eLisZip true (aCons (eVar 6) (aCons (eVar 9) aNil)))))
theorem yardEnd_ok {ns : List Int} {b : Nat} (hb : b ≤ 90) {x2 : Option D} {cell : Int} {x4 x5 : Option D} {R : List Int} (hR : Rm R) {x8 x13 : Option D} (L : List Int) (hL : ∀ z ∈ L, 0 ≤ z) (hl : (L.length : Int) ≤ R.sum) :
    ∃ rows, Rows R rows ∧ rows ∈ plc R L (R.map fun _ => []) ∧ yardEnd (yT ns (b : Nat) x2 cell x4 x5 R (some (.lst (L.map .int))) x8 none none none x13) [.lst (R.map fun _ => D.tup [])] = .rt (.loc 1) [.lst (rows.map rowD), .lst ((R.zip rows).map lineD)] := by
  have h6 := (rm_sum hR).2
  have hr0 : Rows R (R.map fun _ => []) := by
    refine ⟨by simp, fun j r q e1 e2' => ?_, fun r hr z hz => ?_⟩
    · rw [List.getElem?_map, e2'] at e1
      cases e1
      have := (hR.q q (List.mem_of_getElem? e2')).1
      simp
      omega
    · obtain ⟨_, _, rfl⟩ := List.mem_map.mp hr
      cases hz
  have t0 : tot (R.map fun _ => ([] : List Int)) = 0 := by
    have : ∀ R : List Int, tot (R.map fun _ => ([] : List Int)) = 0 := by
      intro R
      induction R with
      | nil => rfl
      | cons a R ih => simp [tot] at ih ⊢; exact ih
    exact this R
  obtain ⟨rows', y10, y11, y12, h1, hmem, h2⟩ := yard_loop (ns := ns) (b := b) (by omega) (x2 := x2) (cell := cell) (x4 := x4) (x5 := x5) hR.len (fun q hq => (hR.q q hq).2) (x7 := some (.lst (L.map .int))) (x8 := x8) (x13 := x13) L 0 (R.map fun _ => []) none none none (by omega) hL hr0 (by rw [t0]; omega)
  refine ⟨rows', h1, hmem, ?_⟩
  have e0 : (R.map fun _ => ([] : List Int)).map rowD = R.map fun _ => D.tup [] := by rw [List.map_map]; rfl
  rw [e0] at h2
  unfold yardEnd
  have e1 : (sFor 0 (iEnu (eVar 7)) (gbTup (gbCons (gbName 10) (gbCons (gbName 11) gbNil))) yardB) (yT ns (b : Nat) x2 cell x4 x5 R (some (.lst (L.map .int))) x8 none none none x13) [.lst (R.map fun _ => D.tup [])] = sForL (gbTup (gbCons (gbName 10) (gbCons (gbName 11) gbNil))) yardB (numb 0 (L.map .int)) (yT ns (b : Nat) x2 cell x4 x5 R (some (.lst (L.map .int))) x8 none none none x13) [.lst (R.map fun _ => D.tup [])] := rfl
  rw [z_seq, e1, h2, z_sq1]
  have hlen := h1.len
  have hRl : R.length ≤ 3 := by rcases hR.len with h | h <;> omega
  have hm : min (R.map D.int).length (rows'.map rowD).length ≤ 3 := by
    rw [List.length_map]
    omega
  have hz : lzG [.lst (rows'.map rowD)] [.lst (R.map .int), .loc 0] = .l ((R.zip rows').map lineD) := by
    show (if min (R.map D.int).length (rows'.map rowD).length ≤ sizeLine then Ro.l (zipD (R.map .int) (rows'.map rowD)) else .no) = _
    rw [if_pos (le3 hm), zip_lines]
  simp [yT, eLisZip, hz]
end Lw

namespace Lw
open PySem Tb
def yA : SM := (sSet 3 (eCallP 2 f__law_cell_at (aCons (eVar 0) (aCons (eVar 1) aNil))))
def yB : SM := (sPar [4, 5] (aCons (eCallP 3 f__law_number (aCons (eVar 3) (aCons (e2 false addG (eVar 1) (eC (.int 1))) (aCons (eC (.int 5)) aNil)))) (aCons (e2 false addG (eC (.int 1)) (eCallP 3 f__law_number (aCons (eVar 3) (aCons (e2 false addG (eVar 1) (eC (.int 2))) (aCons (eC (.int 6)) aNil))))) aNil)))
def yC : SM := (sSet 6 (e2 false ixG (eLst false (aCons (eLst false (aCons (eC (.int 2)) (aCons (eC (.int 2)) aNil))) (aCons (eLst false (aCons (eC (.int 1)) (aCons (eC (.int 2)) aNil))) (aCons (eLst false (aCons (eC (.int 2)) (aCons (eC (.int 1)) aNil))) (aCons (eLst false (aCons (eC (.int 1)) (aCons (eC (.int 1)) aNil))) (aCons (eLst false (aCons (eC (.int 2)) (aCons (eC (.int 2)) aNil))) aNil)))))) (eVar 4)))
def yE : SM := (sSet 5 (eCall false minG (aCons (eCall false sumG (aCons (eVar 6) aNil)) (aCons (eVar 5) (aCons (eC (.int 3)) aNil)))))
def yF : SM := (sSet 7 (eLisRng false (eVar 5)))
def yG : SM := (sPar [8, 9] (aCons (eCallP 3 f__law_number (aCons (eVar 3) (aCons (e2 false addG (eVar 1) (eC (.int 3))) (aCons (eC (.int 6)) aNil)))) (aCons (eLc true (iOf (eVar 6)) (gbName 13) tYesD (eTup aNil) [13]) aNil)))
def yH : SM := (sSet 7 (e2 false addG (eSl false (eVar 7) (oSome (e2 false modG (eVar 8) (eVar 5))) oNone) (eSl false (eVar 7) oNone (oSome (e2 false modG (eVar 8) (eVar 5))))))
def yI : SM := (sIf (t2 gtG (eVar 8) (eC (.int 2)))
  (sSet 7 (e1 false revA (eVar 7)))
  sNil)
theorem yard_eq : m__law_yard = sSeq yA (sSeq yB (sSeq yC (sSeq yardHead (sSeq yE (sSeq yF (sSeq yG (sSeq yH (sSeq yI yardEnd)))))))) := rfl
theorem yA_ok (ns : List Int) (b : Nat) (x2 : Option D) : ∃ c : Int, ∀ lh, yA [some (scD ns), some (.int (b : Nat)), x2, none, none, none, none, none, none, none, none, none, none, none] lh = .nx [some (scD ns), some (.int (b : Nat)), x2, some (.int c), none, none, none, none, none, none, none, none, none, none] lh := by
  obtain ⟨c, hc⟩ := cell_call ns b
  exact ⟨c, fun lh => by simp [yA, hc]⟩
theorem yB_ok (ns : List Int) (b : Nat) (hb : b ≤ 90) (c : Int) (x2 : Option D) : ∃ k m : Int, (0 ≤ k ∧ k < 5) ∧ (1 ≤ m ∧ m ≤ 6) ∧ ∀ lh, yB [some (scD ns), some (.int (b : Nat)), x2, some (.int c), none, none, none, none, none, none, none, none, none, none] lh = .nx [some (scD ns), some (.int (b : Nat)), x2, some (.int c), some (.int k), some (.int m), none, none, none, none, none, none, none, none] lh := by
  obtain ⟨k, k0, k1, hk⟩ := number_call c ((b : Int) + 1) 5 (by omega) (by omega) (by omega)
  obtain ⟨m, m0, m1, hm⟩ := number_call c ((b : Int) + 2) 6 (by omega) (by omega) (by omega)
  exact ⟨k, 1 + m, ⟨k0, k1⟩, by omega, fun lh => by simp [yB, hk, hm]⟩
theorem yC_ok (ns : List Int) (b : Nat) (c k m : Int) (hk : 0 ≤ k ∧ k < 5) (x2 : Option D) : ∃ R, (Rm R ∧ R.length = 2) ∧ ∀ lh, yC [some (scD ns), some (.int (b : Nat)), x2, some (.int c), some (.int k), some (.int m), none, none, none, none, none, none, none, none] lh = .nx [some (scD ns), some (.int (b : Nat)), x2, some (.int c), some (.int k), some (.int m), some (.lst (R.map .int)), none, none, none, none, none, none, none] lh := by
  have hs : (5 : Nat) ≤ sizeLine := by decide
  have hs2 : (2 : Nat) ≤ sizeLine := by decide
  obtain ⟨z, hz, hi⟩ := ix_someL (xs := [.lst [.int 2, .int 2], .lst [.int 1, .int 2], .lst [.int 2, .int 1], .lst [.int 1, .int 1], .lst [.int 2, .int 2]]) hk.1 hk.2
  have hR : ∃ R, (Rm R ∧ R.length = 2) ∧ z = .lst (R.map .int) := by
    simp only [List.mem_cons, List.not_mem_nil, or_false] at hz
    rcases hz with h | h | h | h | h
    · exact ⟨[2, 2], ⟨⟨by decide, .inl rfl, by decide⟩, rfl⟩, h⟩
    · exact ⟨[1, 2], ⟨⟨by decide, .inl rfl, by decide⟩, rfl⟩, h⟩
    · exact ⟨[2, 1], ⟨⟨by decide, .inl rfl, by decide⟩, rfl⟩, h⟩
    · exact ⟨[1, 1], ⟨⟨by decide, .inl rfl, by decide⟩, rfl⟩, h⟩
    · exact ⟨[2, 2], ⟨⟨by decide, .inl rfl, by decide⟩, rfl⟩, h⟩
  obtain ⟨R, h1, rfl⟩ := hR
  exact ⟨R, h1, fun lh => by simp [yC, hs, hs2, hi]⟩
theorem yD_ok (ns : List Int) (b : Nat) (c k m : Int) (hk : 0 ≤ k ∧ k < 5) (g : Bool) (R0 : List Int) (h0 : Rm R0 ∧ R0.length = 2) : ∃ R, (Rm R ∧ R.length = if g = true then 3 else 2) ∧ ∀ lh, yardHead [some (scD ns), some (.int (b : Nat)), some (.bl g), some (.int c), some (.int k), some (.int m), some (.lst (R0.map .int)), none, none, none, none, none, none, none] lh = .nx [some (scD ns), some (.int (b : Nat)), some (.bl g), some (.int c), some (.int k), some (.int m), some (.lst (R.map .int)), none, none, none, none, none, none, none] lh := by
  have hs : (5 : Nat) ≤ sizeLine := by decide
  have hs2 : (3 : Nat) ≤ sizeLine := by decide
  cases g with
  | false => exact ⟨R0, h0, fun lh => by simp [yardHead, truD]⟩
  | true =>
    obtain ⟨z, hz, hi⟩ := ix_someL (xs := [.lst [.int 2, .int 1, .int 1], .lst [.int 1, .int 2, .int 1], .lst [.int 1, .int 1, .int 2], .lst [.int 1, .int 1, .int 1], .lst [.int 2, .int 1, .int 1]]) hk.1 hk.2
    have hR : ∃ R, (Rm R ∧ R.length = if true = true then 3 else 2) ∧ z = .lst (R.map .int) := by
      simp only [List.mem_cons, List.not_mem_nil, or_false] at hz
      rcases hz with h | h | h | h | h
      · exact ⟨[2, 1, 1], ⟨⟨by decide, .inr rfl, by decide⟩, rfl⟩, h⟩
      · exact ⟨[1, 2, 1], ⟨⟨by decide, .inr rfl, by decide⟩, rfl⟩, h⟩
      · exact ⟨[1, 1, 2], ⟨⟨by decide, .inr rfl, by decide⟩, rfl⟩, h⟩
      · exact ⟨[1, 1, 1], ⟨⟨by decide, .inr rfl, by decide⟩, rfl⟩, h⟩
      · exact ⟨[2, 1, 1], ⟨⟨by decide, .inr rfl, by decide⟩, rfl⟩, h⟩
    obtain ⟨R, h1, rfl⟩ := hR
    exact ⟨R, h1, fun lh => by simp [yardHead, truD, hs, hs2, hi]⟩
/-- a list of m numbers, none below 0 -/
def NL (m : Int) (L : List Int) : Prop := (L.length : Int) = m ∧ ∀ z ∈ L, 0 ≤ z
def rngI (m : Int) : List Int := (List.range m.toNat).map fun i => ((i : Nat) : Int)
theorem yEF_ok (ns : List Int) (b : Nat) (c k m : Int) (hm : 1 ≤ m ∧ m ≤ 6) (x2 : Option D) (R : List Int) (hR : Rm R) : ∃ M : Int, (1 ≤ M ∧ M ≤ 3 ∧ M ≤ R.sum) ∧ ∃ L, NL M L ∧ L = rngI M ∧ ∀ lh, (sSeq yE yF) [some (scD ns), some (.int (b : Nat)), x2, some (.int c), some (.int k), some (.int m), some (.lst (R.map .int)), none, none, none, none, none, none, none] lh = .nx [some (scD ns), some (.int (b : Nat)), x2, some (.int c), some (.int k), some (.int M), some (.lst (R.map .int)), some (.lst (L.map .int)), none, none, none, none, none, none] lh := by
  have h2 := rm_sum hR
  obtain ⟨M, hM⟩ : ∃ M : Int, M = (if 3 < (if m < R.sum then m else R.sum) then 3 else (if m < R.sum then m else R.sum)) := ⟨_, rfl⟩
  have b1 : 1 ≤ M ∧ M ≤ 3 ∧ M ≤ R.sum := by
    rw [hM]
    split <;> split <;> omega
  have hmin : ∀ lh, minG lh [.int R.sum, .int m, .int 3] = .v (.int M) := fun lh => by rw [hM]; rfl
  refine ⟨M, b1, (List.range M.toNat).map fun i => ((i : Nat) : Int), ⟨by simp; omega, fun z hz => ?_⟩, rfl, fun lh => ?_⟩
  · obtain ⟨i, _, rfl⟩ := List.mem_map.mp hz
    omega
  · have hb : -(2 ^ 62) ≤ M ∧ M ≤ 2 ^ 24 := by omega
    have hl : ∀ τ lh, eLisRng false (eC (.int M)) τ lh = .ok (.lst (intsD 0 M.toNat)) lh := fun τ lh => by
      show (if -(2 ^ 62) ≤ M ∧ M ≤ 2 ^ 24 then (Ro.l (intsD 0 M.toNat)).res false lh else .stuck) = _
      rw [if_pos hb]
      rfl
    have e1 : yE [some (scD ns), some (.int (b : Nat)), x2, some (.int c), some (.int k), some (.int m), some (.lst (R.map .int)), none, none, none, none, none, none, none] lh = .nx [some (scD ns), some (.int (b : Nat)), x2, some (.int c), some (.int k), some (.int M), some (.lst (R.map .int)), none, none, none, none, none, none, none] lh := by
      simp [yE, sum_ints, hmin]
    rw [z_seq, e1, z_sq1]
    show (eLisRng false (eC (.int M)) [] lh).toS _ _ = _
    rw [hl, rngD]
    rfl
end Lw

namespace Lw
open PySem Tb
theorem yG_ok (ns : List Int) (b : Nat) (hb : b ≤ 90) (c k M : Int) (x2 x7 : Option D) (R : List Int) (hR : Rm R) : ∃ t : Int, (0 ≤ t ∧ t < 6) ∧ yG [some (scD ns), some (.int (b : Nat)), x2, some (.int c), some (.int k), some (.int M), some (.lst (R.map .int)), x7, none, none, none, none, none, none] [] = .nx [some (scD ns), some (.int (b : Nat)), x2, some (.int c), some (.int k), some (.int M), some (.lst (R.map .int)), x7, some (.int t), some (.loc 0), none, none, none, none] [.lst (R.map fun _ => D.tup [])] := by
  obtain ⟨t, t0, t1, ht⟩ := number_call c ((b : Int) + 3) 6 (by omega) (by omega) (by omega)
  refine ⟨t, ⟨t0, t1⟩, ?_⟩
  have hl := lc_empty [some (scD ns), some (.int (b : Nat)), x2, some (.int c), some (.int k), some (.int M), some (.lst (R.map .int)), x7, none, none, none, none, none, none] [] rfl (R.map .int)
  have hRl : R.length ≤ 3 := by rcases hR.len with h | h <;> omega
  have he : eLc true (iOf (eVar 6)) (gbName 13) tYesD (eTup aNil) [13] [some (scD ns), some (.int (b : Nat)), x2, some (.int c), some (.int k), some (.int M), some (.lst (R.map .int)), x7, none, none, none, none, none, none] [] = .ok (.loc 0) [.lst (R.map fun _ => D.tup [])] := by
    show (match lcL (gbName 13) tYesD (eTup aNil) [13] (wipeD [some (scD ns), some (.int (b : Nat)), x2, some (.int c), some (.int k), some (.int M), some (.lst (R.map .int)), x7, none, none, none, none, none, none] [13]) (R.map .int) [] with
      | some (ys, lh) => fin true ys lh
      | none => .stuck) = _
    rw [hl]
    show (if (List.map (fun _ => D.tup []) (R.map D.int)).length ≤ sizeLine then _ else _) = _
    rw [if_pos (le3 (by simp; omega)), List.map_map]
    rfl
  simp [yG, ht, he]
theorem cutL_from (L : List Int) (i : Nat) (h : i ≤ L.length) : cutD (L.map .int) (some (i : Int)) none = (L.drop i).map .int := by
  rw [cut_from (by simpa using h), List.map_drop]
theorem cutL_to (L : List Int) (i : Nat) (h : i ≤ L.length) : cutD (L.map .int) none (some (i : Int)) = (L.take i).map .int := by
  rw [cut_to (by simpa using h), List.map_take]
theorem yHI_ok (ns : List Int) (b : Nat) (c k M t : Int) (hM : 1 ≤ M ∧ M ≤ 3) (x2 : Option D) (x6 : Option D) (L : List Int) (hL : NL M L) (hLr : L = rngI M) (x9 : Option D) (lh : LH) : ∃ L', NL M L' ∧ L' ∈ nmsAll ∧ (sSeq yH yI) [some (scD ns), some (.int (b : Nat)), x2, some (.int c), some (.int k), some (.int M), x6, some (.lst (L.map .int)), some (.int t), x9, none, none, none, none] lh = .nx [some (scD ns), some (.int (b : Nat)), x2, some (.int c), some (.int k), some (.int M), x6, some (.lst (L'.map .int)), some (.int t), x9, none, none, none, none] lh := by
  have h0 := fm0 t (n := M) (by omega)
  have h1 := fm1 t (n := M) (by omega)
  obtain ⟨i, hi⟩ := Int.eq_ofNat_of_zero_le h0
  have hl := hL.1
  have hM0 : M ≠ 0 := by omega
  have hil : i ≤ L.length := by omega
  have hadd : addG lh (.lst ((L.map .int).drop i)) (.lst ((L.map .int).take i)) = .l ((L.map .int).drop i ++ (L.map .int).take i) := by
    show (if ((L.map D.int).drop i).length + ((L.map D.int).take i).length ≤ sizeLine then Ro.l (((L.map .int).drop i) ++ ((L.map .int).take i)) else .no) = _
    rw [if_pos (le3 (by simp; omega))]
  have e1 : yH [some (scD ns), some (.int (b : Nat)), x2, some (.int c), some (.int k), some (.int M), x6, some (.lst (L.map .int)), some (.int t), x9, none, none, none, none] lh = .nx [some (scD ns), some (.int (b : Nat)), x2, some (.int c), some (.int k), some (.int M), x6, some (.lst ((L.drop i ++ L.take i).map .int)), some (.int t), x9, none, none, none, none] lh := by
    simp [yH, hM0, hi, cutL_from L i hil, cutL_to L i hil, hadd]
  have n1 : NL M (L.drop i ++ L.take i) := ⟨by simp; omega, fun z hz => by
    rcases List.mem_append.mp hz with hz | hz
    · exact hL.2 z (List.mem_of_mem_drop hz)
    · exact hL.2 z (List.mem_of_mem_take hz)⟩
  have n2 : L.drop i ++ L.take i ∈ nmsAll ∧ (L.drop i ++ L.take i).reverse ∈ nmsAll := by
    subst hLr
    have hi3 : i < 3 := by omega
    have hM3 : M = 1 ∨ M = 2 ∨ M = 3 := by omega
    have hii : i = 0 ∨ i = 1 ∨ i = 2 := by omega
    rcases hM3 with rfl | rfl | rfl <;> rcases hii with rfl | rfl | rfl <;> first | decide | (exfalso; omega)
  generalize L.drop i ++ L.take i = L1 at e1 n1 n2
  by_cases ht : 2 < t
  · refine ⟨L1.reverse, ⟨by simp; exact n1.1, fun z hz => n1.2 z (by simpa using hz)⟩, n2.2, ?_⟩
    have hrev : revA lh (.lst (L1.map .int)) = .l (L1.reverse.map .int) := by
      show Ro.l (L1.map .int).reverse = _
      rw [List.map_reverse]
    rw [z_seq, e1, z_sq1]
    simp [yI, ht, hrev]
  · refine ⟨L1, n1, n2.1, ?_⟩
    rw [z_seq, e1, z_sq1]
    simp [yI, ht]
theorem seq_assoc {a b : SM} {f : Tau → LH → SRes} {τ : Tau} {lh : LH} : (a τ lh).seq (fun τ lh => (b τ lh).seq f) = ((sSeq a b) τ lh).seq f := by
  show _ = ((a τ lh).seq b).seq f
  cases a τ lh <;> rfl
theorem yard_run (ns : List Int) (b : Nat) (hb : b ≤ 90) (g : Bool) : ∃ R rows, Rm R ∧ Rows R rows ∧ (R.length = if g = true then 3 else 2) ∧ (∃ L ∈ nmsAll, (L.length : Int) ≤ R.sum ∧ rows ∈ plc R L (R.map fun _ => [])) ∧ f__law_yard [scD ns, .int (b : Nat), .bl g] [] = .ok (.loc 1) [.lst (rows.map rowD), .lst ((R.zip rows).map lineD)] := by
  obtain ⟨c, hA⟩ := yA_ok ns b (some (.bl g))
  obtain ⟨k, m, hk, hm, hB⟩ := yB_ok ns b hb c (some (.bl g))
  obtain ⟨R0, hR0, hC⟩ := yC_ok ns b c k m hk (some (.bl g))
  obtain ⟨R, ⟨hR, hRl⟩, hD⟩ := yD_ok ns b c k m hk g R0 hR0
  obtain ⟨M, hM, L, hL, hLr, hE⟩ := yEF_ok ns b c k m hm (some (.bl g)) R hR
  obtain ⟨t, ht, hG⟩ := yG_ok ns b hb c k M (some (.bl g)) (some (.lst (L.map .int))) R hR
  obtain ⟨L', hL', hLm, hH⟩ := yHI_ok ns b c k M t ⟨hM.1, hM.2.1⟩ (some (.bl g)) (some (.lst (R.map .int))) L hL hLr (some (.loc 0)) [.lst (R.map fun _ => D.tup [])]
  obtain ⟨rows, hr, hpl, hZ⟩ := yardEnd_ok (ns := ns) (b := b) hb (x2 := some (.bl g)) (cell := c) (x4 := some (.int k)) (x5 := some (.int M)) hR (x8 := some (.int t)) (x13 := none) L' hL'.2 (by rw [hL'.1]; exact hM.2.2)
  refine ⟨R, rows, hR, hr, hRl, ⟨L', hLm, by rw [hL'.1]; exact hM.2.2, hpl⟩, ?_⟩
  unfold f__law_yard fnM
  rw [yard_eq]
  have e : (sSeq yA (sSeq yB (sSeq yC (sSeq yardHead (sSeq yE (sSeq yF (sSeq yG (sSeq yH (sSeq yI yardEnd))))))))) [some (scD ns), some (.int (b : Nat)), some (.bl g), none, none, none, none, none, none, none, none, none, none, none] [] = .rt (.loc 1) [.lst (rows.map rowD), .lst ((R.zip rows).map lineD)] := by
    rw [z_seq, hA, z_sq1, z_seq, hB, z_sq1, z_seq, hC, z_sq1, z_seq, hD, z_sq1, z_seq]
    have e1 : ∀ τ lh, (yE τ lh).seq (sSeq yF (sSeq yG (sSeq yH (sSeq yI yardEnd)))) = ((sSeq yE yF) τ lh).seq (sSeq yG (sSeq yH (sSeq yI yardEnd))) := fun τ lh => seq_assoc
    have e2' : ∀ τ lh, (yH τ lh).seq (sSeq yI yardEnd) = ((sSeq yH yI) τ lh).seq yardEnd := fun τ lh => seq_assoc
    rw [e1, hE, z_sq1, z_seq, hG, z_sq1, z_seq, e2', hH, z_sq1]
    exact hZ
  show (match (sSeq yA (sSeq yB (sSeq yC (sSeq yardHead (sSeq yE (sSeq yF (sSeq yG (sSeq yH (sSeq yI yardEnd))))))))) [some (scD ns), some (.int (b : Nat)), some (.bl g), none, none, none, none, none, none, none, none, none, none, none] [] with
    | .nx _ lh => _ | .rt d lh => _ | .exc c _ lh => _ | .bk _ _ => _ | .stuck => _) = _
  rw [e]
/-- lines that are a yard -/
def okB (ls : List (Int × List Int)) : Bool := decide (2 ≤ ls.length) && (decide (ls.length ≤ 3) && (ls.all (fun q => decide (1 ≤ q.1) && (decide (q.1 ≤ 2) && decide ((q.2.length : Int) ≤ q.1))) && (decide ((ls.map (·.1)).sum ≤ 4) && nmsAll.contains (ls.map (·.2)).flatten)))
theorem all_ok : (rmAll.all fun R => nmsAll.all fun L => !decide ((L.length : Int) ≤ R.sum && decide (R.sum ≤ 4)) || (plc R L (R.map fun _ => [])).all fun rows => okB (R.zip rows)) = true := by decide +kernel
theorem yard_good {R : List Int} {rows : List (List Int)} (hR : Rm R) (hr : Rows R rows) : Yard (R.zip rows) := by
  have hl := hr.len
  have hRl : 2 ≤ R.length ∧ R.length ≤ 3 := by rcases hR.len with h | h <;> omega
  refine ⟨by simp; omega, by simp; omega, fun q hq => (hR.q _ (List.of_mem_zip hq).1).2, fun q hq => ?_⟩
  obtain ⟨j, hj⟩ := List.getElem?_of_mem hq
  have h1 : R[j]? = some q.1 := by
    have := congrArg (fun o => o.map Prod.fst) hj
    rw [List.getElem?_zip_eq_some] at hj
    exact hj.1
  have h2 : rows[j]? = some q.2 := by
    rw [List.getElem?_zip_eq_some] at hj
    exact hj.2
  have f := hr.fit j q.2 q.1 h2 h1
  have := (hR.q _ (List.mem_of_getElem? h1)).2
  exact ⟨by omega, hr.nat _ (List.mem_of_getElem? h2)⟩
theorem rm_sum4 {R : List Int} (h : R ∈ rmAll) : R.sum ≤ 4 := by
  have : (rmAll.all fun R => decide (R.sum ≤ 4)) = true := by decide +kernel
  exact of_decide_eq_true (List.all_eq_true.mp this R h)
theorem yard_call (ns : List Int) (b : Nat) (hb : b ≤ 90) (g : Bool) : ∃ ls, Yard ls ∧ okB ls = true ∧ (ls.length = if g = true then 3 else 2) ∧ ∀ lh, callP f__law_yard [scD ns, .int (b : Nat), .bl g] lh = .ok (linesD ls) lh := by
  obtain ⟨R, rows, hR, hr, hl, ⟨L, hL1, hL2, hL3⟩, e⟩ := yard_run ns b hb g
  have hok : okB (R.zip rows) = true := by
    have h1 := List.all_eq_true.mp (List.all_eq_true.mp all_ok R hR.mem) L hL1
    rw [decide_eq_true (by simp [hL2, rm_sum4 hR.mem])] at h1
    simp only [Bool.not_true, Bool.false_or] at h1
    exact List.all_eq_true.mp h1 rows hL3
  refine ⟨R.zip rows, yard_good hR hr, hok, by rw [← hl]; simp [hr.len], fun lh => callP_of2 (args3 (frz_sc _ 10 ns) rfl rfl) e ?_⟩
  show (match mapO (frz _ 11) ((R.zip rows).map lineD) with
    | some ks => some (D.lst ks)
    | none => none) = _
  have : mapO (frz [.lst (rows.map rowD), .lst ((R.zip rows).map lineD)] 11) ((R.zip rows).map lineD) = some ((R.zip rows).map lineD) := mapO_all fun x hx => by
    obtain ⟨q, _, rfl⟩ := List.mem_map.mp hx
    refine frz_tup fun x hx => ?_
    simp only [List.mem_cons, List.not_mem_nil, or_false] at hx
    rcases hx with rfl | rfl
    · rfl
    · exact frz_row _ 8 q.2
  rw [this]
  rfl
end Lw

namespace Lw
open PySem Tb
/-! ### deeds drawn -/
def dT (x0 x1 : Option D) (ls : List (Int × List Int)) (x3 : Option D) (s : Stand) (x6 x7 x8 x9 x10 x11 x12 x13 : Option D) : Tau :=
  [x0, x1, some (linesD ls), x3, some (stD s), some (.loc 0), x6, x7, x8, x9, x10, x11, x12, x13]
def tN : TM := (t2 isNotG (eCallP 3 f__law_behind (aCons (eVar 2) (aCons (eVar 4) (aCons (eVar 13) aNil)))) (eC .non))
def tI : TM := (t2 isG (eCallP 3 f__law_behind (aCons (eVar 2) (aCons (eVar 4) (aCons (eVar 13) aNil)))) (eC .non))
theorem lcN_ok {ls : List (Int × List Int)} {s : Stand} (Y : Yard ls) (g : Good ls.length s) (x0 x1 x3 x6 x7 x8 x9 x10 x11 x12 x13 : Option D) (lh : LH) : ∀ ws : List Wd,
    lcL (gbName 13) tN (eVar 13) [13] (dT x0 x1 ls x3 s x6 x7 x8 x9 x10 x11 x12 x13) (wsD ws) lh = some (wsD (ws.filter fun w => (beh ls s w).isSome), lh)
  | [] => rfl
  | w :: ws => by
    have ih := lcN_ok Y g x0 x1 x3 x6 x7 x8 x9 x10 x11 x12 x13 lh ws
    have hc := lbehind_call Y g w
    show stepL (gbName 13) tN (eVar 13) [13] _ (.str w.s) lh (lcL (gbName 13) tN (eVar 13) [13] (dT x0 x1 ls x3 s x6 x7 x8 x9 x10 x11 x12 x13) (wsD ws)) = _
    cases q : beh ls s w with
    | none =>
      rw [q] at hc
      simp [stepL, tN, dT, hc, opD, isNotG]
      rw [List.filter_cons_of_neg (by simp [q])]
      simpa [dT, tN] using ih
    | some s' =>
      rw [q] at hc
      have e : isNotG lh (stD s') .non = .v (.bl true) := rfl
      have ih' : lcL (gbName 13) tN (eVar 13) [13] [x0, x1, some (linesD ls), x3, some (stD s), some (.loc 0), x6, x7, x8, x9, x10, x11, x12, x13] (wsD ws) lh = some (wsD (ws.filter fun w => (beh ls s w).isSome), lh) := ih
      simp [stepL, tN, dT, hc, opD, e]
      rw [List.filter_cons_of_pos (by simp [q])]
      rw [show (t2 isNotG (eCallP 3 f__law_behind (aCons (eVar 2) (aCons (eVar 4) (aCons (eVar 13) aNil)))) (eC .non)) = tN from rfl, ih']
      rfl
theorem lcI_ok {ls : List (Int × List Int)} {s : Stand} (Y : Yard ls) (g : Good ls.length s) (x0 x1 x3 x6 x7 x8 x9 x10 x11 x12 x13 : Option D) (lh : LH) : ∀ ws : List Wd,
    lcL (gbName 13) tI (eVar 13) [13] (dT x0 x1 ls x3 s x6 x7 x8 x9 x10 x11 x12 x13) (wsD ws) lh = some (wsD (ws.filter fun w => (beh ls s w).isNone), lh)
  | [] => rfl
  | w :: ws => by
    have ih := lcI_ok Y g x0 x1 x3 x6 x7 x8 x9 x10 x11 x12 x13 lh ws
    have hc := lbehind_call Y g w
    have ih' : lcL (gbName 13) tI (eVar 13) [13] [x0, x1, some (linesD ls), x3, some (stD s), some (.loc 0), x6, x7, x8, x9, x10, x11, x12, x13] (wsD ws) lh = some (wsD (ws.filter fun w => (beh ls s w).isNone), lh) := ih
    show stepL (gbName 13) tI (eVar 13) [13] _ (.str w.s) lh (lcL (gbName 13) tI (eVar 13) [13] (dT x0 x1 ls x3 s x6 x7 x8 x9 x10 x11 x12 x13) (wsD ws)) = _
    cases q : beh ls s w with
    | some s' =>
      rw [q] at hc
      have e : isG lh (stD s') .non = .v (.bl false) := rfl
      simp [stepL, tI, dT, hc, opD, e]
      rw [List.filter_cons_of_neg (by simp [q])]
      exact ih'
    | none =>
      rw [q] at hc
      simp [stepL, tI, dT, hc, opD, isG]
      rw [List.filter_cons_of_pos (by simp [q])]
      rw [show (t2 isG (eCallP 3 f__law_behind (aCons (eVar 2) (aCons (eVar 4) (aCons (eVar 13) aNil)))) (eC .non)) = tI from rfl, ih']
      rfl
def turnE : EM := (eLc false (iRng (eC (.int 5))) (gbName 12) tYesD (e2 false ixG (eTup (aCons (eC (.str "left")) (aCons (eC (.str "take")) (aCons (eC (.str "out")) (aCons (eC (.str "put")) (aCons (eC (.str "right")) aNil)))))) (e2 false modG (e2 false addG (eVar 9) (e2 false mulG (eC (.int 2)) (eVar 12))) (eC (.int 5)))) [12])
theorem turn_ok {ls : List (Int × List Int)} {s : Stand} (x0 x1 x3 x6 x7 x8 x10 x11 x12 x13 : Option D) (lh : LH) (f : Int) (h0 : 0 ≤ f) (h1 : f < 5) : ∃ ws : List Wd, ws.length = 5 ∧ Wd.left ∈ ws ∧ turnE (dT x0 x1 ls x3 s x6 x7 x8 (some (.int f)) x10 x11 x12 x13) lh = .ok (.lst (wsD ws)) lh := by
  have : f = 0 ∨ f = 1 ∨ f = 2 ∨ f = 3 ∨ f = 4 := by omega
  rcases this with rfl | rfl | rfl | rfl | rfl
  · exact ⟨[.left, .out, .right, .take, .put], rfl, by decide, by kernel_rfl⟩
  · exact ⟨[.take, .put, .left, .out, .right], rfl, by decide, by kernel_rfl⟩
  · exact ⟨[.out, .right, .take, .put, .left], rfl, by decide, by kernel_rfl⟩
  · exact ⟨[.put, .left, .out, .right, .take], rfl, by decide, by kernel_rfl⟩
  · exact ⟨[.right, .take, .put, .left, .out], rfl, by decide, by kernel_rfl⟩
end Lw

namespace Lw
open PySem Tb
end Lw

namespace Lw
open PySem Tb
/-! ### types told as data -/
theorem Wd.s_inj : ∀ a b : Wd, a.s = b.s → a = b := by
  intro a b h
  cases a <;> cases b <;> first | rfl | exact absurd h (by decide)
def wdE : Enc Wd := Enc.str Wd.s (by intro a; cases a <;> decide +kernel) Wd.s_inj
def rowsE : Enc (List (List Int)) := Enc.int.tup.tup
def stE : Enc Stand := Enc.tri rowsE Enc.nat Enc.int
def lineE : Enc (Int × List Int) := Enc.pair Enc.int Enc.int.tup
theorem stE_d (s : Stand) : stE.d s = stD s := rfl
theorem wsE_d (ws : List Wd) : wdE.lst.d ws = .lst (wsD ws) := rfl
theorem linesE_d (ls : List (Int × List Int)) : lineE.lst.d ls = linesD ls := rfl
theorem eqSt (s t : Stand) (lh : LH) : eqG lh (stD s) (stD t) = .v (.bl (decide (s = t))) := stE.eq s t lh
theorem neSt (s t : Stand) (lh : LH) : neG lh (stD s) (stD t) = .v (.bl (!decide (s = t))) := stE.ne s t lh
theorem eqInts (s t : List Int) (lh : LH) : eqG lh (.lst (s.map .int)) (.lst (t.map .int)) = .v (.bl (decide (s = t))) := Enc.int.lst.eq s t lh
theorem neInts (s t : List Int) (lh : LH) : neG lh (.lst (s.map .int)) (.lst (t.map .int)) = .v (.bl (!decide (s = t))) := Enc.int.lst.ne s t lh
theorem eqWd (a b : Wd) (lh : LH) : eqG lh (.str a.s) (.str b.s) = .v (.bl (decide (a = b))) := wdE.eq a b lh
theorem eqWs (a b : List Wd) (lh : LH) : eqG lh (.lst (wsD a)) (.lst (wsD b)) = .v (.bl (decide (a = b))) := wdE.lst.eq a b lh
theorem eqLines (a b : List (Int × List Int)) (lh : LH) : eqG lh (linesD a) (linesD b) = .v (.bl (decide (a = b))) := lineE.lst.eq a b lh
/-! ### all yards -/
def splits : List Int → List Int → List (List (List Int))
  | [], L => if L = [] then [[]] else []
  | a :: R, L => (List.range (L.length + 1)).flatMap fun (k : Nat) => if (k : Int) ≤ a then (splits R (L.drop k)).map fun rs => L.take k :: rs else []
def okList : List (List (Int × List Int)) := rmAll.flatMap fun R => nmsAll.flatMap fun L => (splits R L).map fun rs => R.zip rs
theorem splits_mem : ∀ ls : List (Int × List Int), (∀ q ∈ ls, (q.2.length : Int) ≤ q.1) → ls.map (·.2) ∈ splits (ls.map (·.1)) (ls.map (·.2)).flatten
  | [], _ => by simp [splits]
  | q :: ls, h => by
    have ih := splits_mem ls fun p hp => h p (List.mem_cons_of_mem _ hp)
    simp only [List.map_cons, List.flatten_cons, splits, List.mem_flatMap]
    refine ⟨q.2.length, List.mem_range.mpr (by simp; omega), ?_⟩
    rw [if_pos (h q List.mem_cons_self)]
    simp only [List.drop_left, List.take_left, List.mem_map]
    exact ⟨_, ih, rfl⟩
theorem rooms_mem {R : List Int} (h1 : 2 ≤ R.length) (h2 : R.length ≤ 3) (h3 : ∀ q ∈ R, 1 ≤ q ∧ q ≤ 2) (h4 : R.sum ≤ 4) : R ∈ rmAll := by
  match R, h1, h2 with
  | [a, b], _, _ =>
    have q1 := h3 a (by simp)
    have q2 := h3 b (by simp)
    have r1 : a = 1 ∨ a = 2 := by omega
    have r2 : b = 1 ∨ b = 2 := by omega
    rcases r1 with rfl | rfl <;> rcases r2 with rfl | rfl <;> decide
  | [a, b, c], _, _ =>
    have q1 := h3 a (by simp)
    have q2 := h3 b (by simp)
    have q3 := h3 c (by simp)
    have r1 : a = 1 ∨ a = 2 := by omega
    have r2 : b = 1 ∨ b = 2 := by omega
    have r3 : c = 1 ∨ c = 2 := by omega
    simp only [List.sum_cons, List.sum_nil] at h4
    rcases r1 with rfl | rfl <;> rcases r2 with rfl | rfl <;> rcases r3 with rfl | rfl <;> first | decide | (exfalso; omega)
structure OkP (ls : List (Int × List Int)) : Prop where
  lo : 2 ≤ ls.length
  hi : ls.length ≤ 3
  q : ∀ q ∈ ls, 1 ≤ q.1 ∧ q.1 ≤ 2 ∧ (q.2.length : Int) ≤ q.1
  sum : (ls.map (·.1)).sum ≤ 4
  nms : (ls.map (·.2)).flatten ∈ nmsAll
theorem okP {ls : List (Int × List Int)} (h : okB ls = true) : OkP ls := by
  unfold okB at h
  simp only [Bool.and_eq_true, decide_eq_true_eq, List.all_eq_true, List.contains_iff_mem] at h
  exact ⟨h.1, h.2.1, h.2.2.1, h.2.2.2.1, h.2.2.2.2⟩
theorem ok_mem {ls : List (Int × List Int)} (h : okB ls = true) : ls ∈ okList := by
  have p := okP h
  unfold okList
  rw [List.mem_flatMap]
  refine ⟨ls.map (·.1), rooms_mem (by simpa using p.lo) (by simpa using p.hi) (fun q hq => ?_) p.sum, ?_⟩
  · obtain ⟨x, hx, rfl⟩ := List.mem_map.mp hq
    exact ⟨(p.q x hx).1, (p.q x hx).2.1⟩
  · rw [List.mem_flatMap]
    refine ⟨_, p.nms, ?_⟩
    rw [List.mem_map]
    refine ⟨_, splits_mem ls fun q hq => (p.q q hq).2.2, ?_⟩
    have : ∀ l : List (Int × List Int), (l.map (·.1)).zip (l.map (·.2)) = l := by
      intro l
      induction l with
      | nil => rfl
      | cons a l ih => simp only [List.map_cons, List.zip_cons_cons, ih]
    exact this ls
def isNon : Res D → Bool
  | .ok .non _ => true
  | _ => false
theorem isNon_ok {r : Res D} (h : isNon r = true) : ∃ lh, r = .ok .non lh := by
  unfold isNon at h
  split at h
  · exact ⟨_, rfl⟩
  · cases h
theorem args_l {ls : List (Int × List Int)} : ∀ x ∈ [linesD ls], frz [] fuel x = some x := args1 (frz_lines _ 8 ls)
end Lw

namespace Lw
open PySem Tb
/-! ### what is handed in is a yard, are deeds -/
theorem checkLines_all : (okList.all fun ls => isNon (f_check_lines [linesD ls] [])) = true := by decide +kernel
theorem checkLines_call {ls : List (Int × List Int)} (h : okB ls = true) (lh : LH) : callP f_check_lines [linesD ls] lh = .ok .non lh := by
  obtain ⟨lh', e⟩ := isNon_ok (List.all_eq_true.mp checkLines_all ls (ok_mem h))
  exact callP_of args_l e rfl
theorem isDeed_call (w : Wd) (lh : LH) : callP f_is_deed [.str w.s] lh = .ok (.bl true) lh := by
  have e : f_is_deed [.str w.s] [] = .ok (.bl true) [] := by cases w <;> kernel_rfl
  exact callP_of (args1 rfl) e rfl
theorem all_true {α : Type} (l : List α) : mapO blOf (l.map fun _ => D.bl true) = some (l.map fun _ => true) := mapO_map fun _ _ => rfl
end Lw

namespace Lw
open PySem Tb
/-! ### texts of tales -/
inductive Ow where
  | stop | cLeft | leftn | empty | turn | takes | halt | cOut
deriving DecidableEq
def Ow.s : Ow → Str
  | .stop => "stop" | .cLeft => "Left" | .leftn => "left\n" | .empty => "" | .turn => "turn" | .takes => "takes" | .halt => "halt" | .cOut => "Out"
inductive Tw where
  | d (w : Wd) | o (w : Ow)
deriving DecidableEq
def Tw.s : Tw → Str
  | .d w => w.s
  | .o w => w.s
theorem Tw.s_inj : ∀ a b : Tw, a.s = b.s → a = b := by
  intro a b h
  rcases a with a | a <;> rcases b with b | b <;> cases a <;> cases b <;> first | rfl | exact absurd h (by decide +kernel)
def twE : Enc Tw := Enc.str Tw.s (by intro a; rcases a with a | a <;> cases a <;> decide +kernel) Tw.s_inj
def twD (ts : List Tw) : List D := ts.map fun w => .str w.s
theorem twD_len (ts : List Tw) : (twD ts).length = ts.length := by simp [twD]
theorem twD_app (a b : List Tw) : twD a ++ twD b = twD (a ++ b) := by simp [twD]
abbrev dws (ws : List Wd) : List Tw := ws.map .d
theorem dws_D (ws : List Wd) : twD (dws ws) = wsD ws := by simp [twD, wsD, Tw.s]
theorem frz_tw (lh : LH) (n : Nat) (ts : List Tw) : frz lh (n + 2) (.lst (twD ts)) = some (.lst (twD ts)) := twE.lst.frzAt lh (n + 2) (by show 2 ≤ n + 2; omega) ts
/-- is it a deed -/
def Tw.isD : Tw → Bool
  | .d _ => true
  | .o _ => false
abbrev DEEDS5 : D := .tup [.str "left", .str "out", .str "put", .str "right", .str "take"]
theorem notIn5 (lh : LH) (w : Tw) : notInG lh (.str w.s) DEEDS5 = .v (.bl (!w.isD)) := by
  rcases w with w | w <;> cases w <;> kernel_rfl
theorem in5 (lh : LH) (w : Tw) : inG lh (.str w.s) DEEDS5 = .v (.bl w.isD) := by
  rcases w with w | w <;> cases w <;> kernel_rfl
/-- the first place of what can't be, or is no deed, -1 if there is none -/
def wrg (ls : List (Int × List Int)) : List Tw → Nat → Stand → Int
  | [], _, _ => -1
  | .o _ :: _, i, _ => (i : Int)
  | .d w :: r, i, s => match beh ls s w with
    | none => (i : Int)
    | some s' => wrg ls r (i + 1) s'
theorem wrg_lo (ls : List (Int × List Int)) : ∀ (ts : List Tw) (i : Nat) (s : Stand), -1 ≤ wrg ls ts i s
  | [], _, _ => Int.le_refl _
  | .o _ :: _, i, _ => by show -1 ≤ (i : Int); omega
  | .d w :: r, i, s => by
    unfold wrg
    cases beh ls s w with
    | none => show -1 ≤ (i : Int); omega
    | some s' => exact wrg_lo ls r _ _
theorem wrg_hi (ls : List (Int × List Int)) : ∀ (ts : List Tw) (i : Nat) (s : Stand), wrg ls ts i s < (i : Int) + ts.length
  | [], i, _ => by show (-1 : Int) < (i : Int) + 0; omega
  | .o _ :: _, i, _ => by simp only [wrg, List.length_cons]; omega
  | .d w :: r, i, s => by
    unfold wrg
    simp only [List.length_cons]
    cases beh ls s w with
    | none => simp only; omega
    | some s' =>
      have := wrg_hi ls r (i + 1) s'
      simp only
      omega
theorem gon_snoc (ls : List (Int × List Int)) (w : Wd) : ∀ (ws : List Wd) (i : Nat) (s : Stand) (g : List Int) (s' : Stand) (g' : List Int), gon ls ws i s g = (s', g', -1) →
    (gon ls (ws ++ [w]) i s g).2.2 = (match beh ls s' w with | none => ((i + ws.length : Nat) : Int) | some _ => -1) ∧ ∀ s2, beh ls s' w = some s2 → ∃ g2, gon ls (ws ++ [w]) i s g = (s2, g2, -1)
  | [], i, s, g, s', g', h => by
    simp only [gon, Prod.mk.injEq] at h
    obtain ⟨rfl, rfl, _⟩ := h
    simp only [List.nil_append, gon]
    cases q : beh ls s w with
    | none => exact ⟨by simp, fun s2 z => by cases z⟩
    | some s2 => exact ⟨rfl, fun s3 z => by cases z; exact ⟨_, rfl⟩⟩
  | v :: ws, i, s, g, s', g', h => by
    simp only [gon, List.cons_append] at h ⊢
    cases q : beh ls s v with
    | none =>
      rw [q] at h
      simp only [Prod.mk.injEq] at h
      omega
    | some s2 =>
      rw [q] at h
      have ih := gon_snoc ls w ws (i + 1) s2 _ s' g' h
      simp only [List.length_cons]
      refine ⟨?_, ih.2⟩
      rw [ih.1]
      cases beh ls s' w with
      | none => simp only; congr 1; omega
      | some _ => rfl
/-- the tale d is handed in: by value, or at a location -/
inductive TaleAt (lh : LH) : D → List Tw → Prop
  | v (ts : List Tw) : TaleAt lh (.lst (twD ts)) ts
  | l {n : Nat} {ts : List Tw} : lstAt lh n = some (twD ts) → TaleAt lh (.loc n) ts
theorem wrong_gen {ls : List (Int × List Int)} {f : FM} {ts : List Tw} {z : D} (hz : frz [] fuel z = some z ∧ frzN [] fuel z = some z) (hf : f [linesD ls, .lst (twD ts)] [] = .ok z []) {lh : LH} {d : D} (h : TaleAt lh d ts) : callP f [linesD ls, d] lh = .ok z lh := by
  cases h with
  | v => exact callP_of2 (args2 (frz_lines _ 8 ls) (frz_tw _ 10 ts)) hf hz.1
  | @l n _ hn =>
    unfold callP
    have h0 : mapO (frz [] fuel) [linesD ls, .loc n] = none := by
      have e1 : frz [] fuel (linesD ls) = some (linesD ls) := frz_lines _ 8 ls
      have e2 : frz [] fuel (.loc n) = none := rfl
      simp only [mapO, e1, e2]
    have h1 : mapO (frz lh fuel) [linesD ls, .loc n] = some [linesD ls, .lst (twD ts)] := by
      have e1 : frz lh fuel (linesD ls) = some (linesD ls) := frz_lines _ 8 ls
      have e2 : frz lh fuel (.loc n) = some (.lst (twD ts)) := by
        have := frz_tw lh 9 ts
        unfold lstAt at hn
        show (match lh[n]? with
          | some (.lst ds) => (match mapO (frz lh 11) ds with
            | some ks => some (D.lst ks)
            | none => none)
          | some (.dic ks us) => (match mapO (frz lh 11) us with
            | some us => some (D.dic ks us)
            | none => none)
          | _ => none) = _
        split at hn
        · rename_i e
          cases hn
          rw [e]
          simp only
          have : mapO (frz lh 11) (twD ts) = some (twD ts) := mapO_map fun w _ => rfl
          rw [this]
        · cases hn
      simp only [mapO, e1, e2]
    rw [h0, h1]
    simp only [hf, hz.2]
theorem int_fz (i : Int) : frz [] fuel (.int i) = some (.int i) ∧ frzN [] fuel (.int i) = some (.int i) := ⟨rfl, rfl⟩
end Lw

namespace Lw
open PySem Tb
theorem TaleAt.mono {lh : LH} {d : D} {ts : List Tw} (h : TaleAt lh d ts) (ext : LH) : TaleAt (lh ++ ext) d ts := by
  cases h with
  | v => exact .v ts
  | @l n _ hn =>
    refine .l ?_
    unfold lstAt at hn ⊢
    cases e : lh[n]? with
    | none => rw [e] at hn; cases hn
    | some o =>
      rw [List.getElem?_append_left (List.getElem?_eq_some_iff.mp e).1, e]
      rw [e] at hn
      exact hn
theorem callP_L {f : FM} {ds ds' : List D} {d d' : D} {lh lh' : LH} (h0 : mapO (frz [] fuel) ds = none) (h1 : mapO (frz lh fuel) ds = some ds') (h2 : f ds' [] = .ok d lh') (h3 : frzN lh' fuel d = some d') : callP f ds lh = .ok d' lh := by
  unfold callP
  rw [h0, h1]
  simp only [h2, h3]
theorem frz_loc {lh : LH} {n : Nat} {xs : List D} (h : lstAt lh n = some xs) (hx : ∀ x ∈ xs, frz lh 11 x = some x) : frz lh fuel (.loc n) = some (.lst xs) := by
  unfold lstAt at h
  show (match lh[n]? with
    | some (.lst ds) => (match mapO (frz lh 11) ds with
      | some ks => some (D.lst ks)
      | none => none)
    | some (.dic ks us) => (match mapO (frz lh 11) us with
      | some us => some (D.dic ks us)
      | none => none)
    | _ => none) = _
  split at h
  · rename_i e
    cases h
    rw [e]
    simp only
    rw [mapO_all hx]
  · cases h
theorem frzN_ints (lh : LH) (n : Nat) : ∀ r : List Int, mapO (frzN lh (n + 1)) (r.map D.int) = some (r.map D.int)
  | [] => rfl
  | a :: r => by
    have := frzN_ints lh n r
    simp only [List.map_cons, mapO, frzN] at this ⊢
    rw [this]
theorem frzN_tup {lh : LH} {n : Nat} {xs : List D} (h : mapO (frzN lh n) xs = some xs) : frzN lh (n + 1) (.tup xs) = some (.tup xs) := by
  show (match mapO (frzN lh n) xs with
    | some ks => some (D.tup ks)
    | none => none) = _
  rw [h]
theorem frzN_st (lh : LH) (n : Nat) (s : Stand) : frzN lh (n + 4) (stD s) = some (stD s) := by
  refine frzN_tup (mapO_all fun x hx => ?_)
  simp only [List.mem_cons, List.not_mem_nil, or_false] at hx
  rcases hx with rfl | rfl | rfl
  · refine frzN_tup (mapO_all fun x hx => ?_)
    obtain ⟨r, _, rfl⟩ := List.mem_map.mp hx
    exact frzN_tup (frzN_ints lh n r)
  · rfl
  · rfl
theorem frzN_op (lh : LH) (n : Nat) (o : Option Stand) : frzN lh (n + 4) (opD o) = some (opD o) := by
  cases o with
  | none => rfl
  | some s => exact frzN_st lh n s
/-! ### a yard in use -/
end Lw

namespace Lw
open PySem Tb
end Lw

namespace Lw
open PySem Tb
theorem insLast (lh : LH) (c : Str) (fs : List (Str × D)) : insAt (lh ++ [.ins c fs]) (.loc lh.length) = some (lh.length, c, fs) := by
  refine insH ?_
  rw [List.getElem?_append_right (Nat.le_refl _), Nat.sub_self]
  rfl
theorem setLast (lh : LH) (o u : LO) : (lh ++ [o]).set lh.length u = lh ++ [u] := by
  rw [List.set_append_right (h := Nat.le_refl _), Nat.sub_self]
  rfl
theorem saysCall (a b : Bool) (lh : LH) : callP f__law_says [.bl a, .bl b] lh = .ok (.bl (a == b)) lh := by
  have e : f__law_says [.bl a, .bl b] [] = .ok (.bl (a == b)) [] := by cases a <;> cases b <;> kernel_rfl
  exact callP_of (args2 rfl rfl) e rfl
theorem lenTale {lh : LH} {d : D} {ts : List Tw} (h : TaleAt lh d ts) : lenG lh [d] = .v (.int ts.length) := by
  cases h with
  | v => 
    show Ro.v (.int ((twD ts).length : Int)) = _
    rw [twD_len]
  | @l n _ hn =>
    show (match lstAt lh n with
      | some xs => Ro.v (.int xs.length)
      | none => .no) = _
    rw [hn]
    simp only
    rw [twD_len]
theorem asMTale {lh : LH} {d : D} {ts : List Tw} (h : TaleAt lh d ts) : asM lh d = some (twD ts) := by
  cases h with
  | v => rfl
  | l hn => exact hn
theorem asLTale {lh : LH} {d : D} {ts : List Tw} (h : TaleAt lh d ts) : asL lh d = some (twD ts) := by
  cases h with
  | v => rfl
  | l hn => exact hn
theorem slTale {lh : LH} {d : D} {ts : List Tw} (h : TaleAt lh d ts) (l r : Option Int) : slG lh d l r = .l (cutD (twD ts) l r) := by
  cases h with
  | v => rfl
  | @l n _ hn =>
    show (match lstAt lh n with
      | some xs => Ro.l (cutD xs l r)
      | none => .no) = _
    rw [hn]
theorem revTale {lh : LH} {d : D} {ts : List Tw} (h : TaleAt lh d ts) : revA lh d = .l (twD ts.reverse) := by
  cases h with
  | v =>
    show Ro.l (twD ts).reverse = _
    simp [twD]
  | @l n _ hn =>
    show (match lstAt lh n with
      | some xs => Ro.l xs.reverse
      | none => .no) = _
    rw [hn]
    simp [twD]
theorem addTale {lh : LH} {d e : D} {ts us : List Tw} (h : TaleAt lh d ts) (h2 : TaleAt lh e us) (hl : ts.length + us.length ≤ 500) : addG lh d e = .l (twD (ts ++ us)) := by
  have a1 := asMTale h
  have a2 := asMTale h2
  have hz : (twD ts).length + (twD us).length ≤ sizeLine := Nat.le_trans (by rw [twD_len, twD_len]; exact hl) (show 500 ≤ sizeLine by decide)
  have key : (match asM lh d, asM lh e with
    | some xs, some ys => if xs.length + ys.length ≤ sizeLine then Ro.l (xs ++ ys) else .no
    | _, _ => .no) = .l (twD (ts ++ us)) := by
    rw [a1, a2]
    simp only [hz, if_true, twD_app]
  rw [← key]
  cases h <;> cases h2 <;> rfl
theorem cutTo {ts : List Tw} {i : Nat} (h : i ≤ ts.length) : cutD (twD ts) none (some (i : Int)) = twD (ts.take i) := by
  rw [cut_to (by rw [twD_len]; exact h)]
  simp [twD, List.map_take]
theorem cutFrom {ts : List Tw} (i : Nat) : cutD (twD ts) (some (i : Int)) none = twD (ts.drop i) := by
  by_cases h : i ≤ ts.length
  · rw [cut_from (by rw [twD_len]; exact h)]
    simp [twD, List.map_drop]
  · have : cutD (twD ts) (some (i : Int)) none = [] := by
      unfold cutD
      rw [HT.sIx_nat, HT.sIx_none, twD_len, Nat.min_eq_right (by omega)]
      simp [twD]
    rw [this, List.drop_eq_nil_of_le (by omega)]
    rfl
end Lw

namespace Lw
open PySem Tb
/-! ### walks of a list at a location -/
theorem lcN_map {α β : Type} {f : α → D} {f2 : β → D} {g : GB} {t : TM} {e : EM} {vs : List Nat} {τ : Tau} {lh : LH} {n : Nat} (F : α → Option β) {l : List α} (hn : lstAt lh n = some (l.map f))
    (H : ∀ a ∈ l, ∃ bs, g lh (f a) = some bs ∧ bs.all (fun p => vs.contains p.1) = true ∧ ((F a = none ∧ t (setAll τ (bs.map (·.1)) (bs.map (·.2))) lh = .ok false lh) ∨ ∃ y, F a = some y ∧ t (setAll τ (bs.map (·.1)) (bs.map (·.2))) lh = .ok true lh ∧ e (setAll τ (bs.map (·.1)) (bs.map (·.2))) lh = .ok (f2 y) lh)) :
    ∀ (m i : Nat), l.length < m + i → i ≤ l.length → lcN (.dy n) g t e vs τ m i lh = some (((l.drop i).filterMap F).map f2, lh)
  | 0, i, h, h2 => by omega
  | m + 1, i, h, h2 => by
    unfold lcN
    simp only [Wk.gt, hn, Option.map_some, List.getElem?_map]
    by_cases hi : i < l.length
    · have q : l[i]? = some l[i] := List.getElem?_eq_getElem hi
      have ih := lcN_map (n := n) F hn H m (i + 1) (by omega) (by omega)
      obtain ⟨bs, h1, h2, h3⟩ := H l[i] (List.getElem_mem hi)
      simp only [q, Option.map_some]
      unfold stepL
      rw [h1, List.drop_eq_getElem_cons hi]
      simp only [h2, if_true]
      rcases h3 with ⟨h3, h4⟩ | ⟨y, h3, h4, h5⟩
      · rw [h4]
        simp only [ih, List.filterMap_cons, h3]
      · rw [h4]
        simp only [h5, ih, List.filterMap_cons, h3, List.map_cons]
    · simp only [List.getElem?_eq_none (Nat.le_of_not_lt hi), Option.map_none]
      rw [List.drop_eq_nil_of_le (Nat.le_of_not_lt hi)]
      rfl
theorem forN_inv {g : GB} {b : SM} {n : Nat} {xs : List D} (I : Tau → LH → Prop) (hI : ∀ τ lh, I τ lh → lstAt lh n = some xs) (H : ∀ d ∈ xs, ∀ τ lh, I τ lh → ∃ bs, g lh d = some bs ∧ ∃ τ' lh', b (setAll τ (bs.map (·.1)) (bs.map (·.2))) lh = .nx τ' lh' ∧ I τ' lh') :
    ∀ (m i : Nat), xs.length < m + i → i ≤ xs.length → ∀ τ lh, I τ lh → ∃ τ' lh', sForN (.dy n) g b m i τ lh = .nx τ' lh' ∧ I τ' lh'
  | 0, i, h, h0, τ, lh, hi => by omega
  | m + 1, i, h, h0, τ, lh, hi => by
    unfold sForN
    simp only [Wk.gt, hI τ lh hi, Option.map_some]
    by_cases hx : i < xs.length
    · have q : xs[i]? = some xs[i] := List.getElem?_eq_getElem hx
      obtain ⟨bs, h1, τ1, lh1, h2, h3⟩ := H xs[i] (List.getElem_mem hx) τ lh hi
      obtain ⟨τ2, lh2, h4, h5⟩ := forN_inv I hI H m (i + 1) (by omega) (by omega) τ1 lh1 h3
      refine ⟨τ2, lh2, ?_, h5⟩
      simp only [q]
      unfold stepG
      rw [h1]
      simp only [h2]
      exact h4
    · simp only [List.getElem?_eq_none (Nat.le_of_not_lt hx)]
      exact ⟨τ, lh, rfl, hi⟩
/-! ### an answer on a tale -/
def ansO (p : Int) : LO := if p < 0 then .ins "Right" [] else .ins "Wrong" [("place", .int p)]
theorem tyTale {lh : LH} {d : D} {ts : List Tw} (h : TaleAt lh d ts) : tyD lh d = some (.b "list") := by
  cases h with
  | v => rfl
  | @l n _ hn =>
    unfold lstAt at hn
    show (match lh[n]? with
      | some (.lst _) => some (Ty.b "list")
      | some (.ins c _) => some (.c c)
      | _ => none) = _
    split at hn
    · rename_i e
      rw [e]
    · cases hn
end Lw

namespace Lw
open PySem Tb
/-! ### the engines that are there -/
def thr (s : Stand) : List Int := (if 0 ≤ s.2.2 then [s.2.2] else []) ++ s.1.flatten
def th (s : Stand) : List Int := isort Enc.int.le (thr s)
theorem insS_len {α : Type} (le : α → α → Bool) (a : α) : ∀ l : List α, (insS le a l).length = l.length + 1
  | [] => rfl
  | b :: l => by
    unfold insS
    split
    · rfl
    · rw [List.length_cons, List.length_cons, insS_len le a l]
theorem isort_len {α : Type} (le : α → α → Bool) : ∀ l : List α, (isort le l).length = l.length
  | [] => rfl
  | a :: l => by
    unfold isort
    rw [insS_len, isort_len le l, List.length_cons]
theorem th_len (s : Stand) : (th s).length = (thr s).length := isort_len _ _
theorem good_flat {n : Nat} {s : Stand} (g : Good n s) (hn : n ≤ 3) : s.1.flatten.length ≤ 6 := by
  have h : ∀ rows : List (List Int), (∀ r ∈ rows, r.length ≤ 2) → rows.flatten.length ≤ 2 * rows.length := by
    intro rows
    induction rows with
    | nil => intro _; simp
    | cons r rows ih =>
      intro h
      have h1 := h r List.mem_cons_self
      have h2 := ih fun x hx => h x (List.mem_cons_of_mem _ hx)
      simp only [List.flatten_cons, List.length_append, List.length_cons]
      omega
  have := h s.1 fun r hr => (g.row r hr).1
  rw [g.len] at this
  omega
theorem addI (lh : LH) (a b : List Int) (h : a.length + b.length ≤ 500) : addG lh (.lst (a.map .int)) (.lst (b.map .int)) = .l ((a ++ b).map .int) := by
  show (if (a.map D.int).length + (b.map D.int).length ≤ sizeLine then Ro.l (a.map .int ++ b.map .int) else .no) = _
  rw [if_pos (Nat.le_trans (by simpa using h) (show 500 ≤ sizeLine by decide)), List.map_append]
theorem sortI (lh : LH) (l : List Int) (h : l.length ≤ 500) : sortA lh [.lst (l.map .int)] = .l ((isort Enc.int.le l).map .int) := Enc.int.sort l lh (.inr fun _ => rfl) (Nat.le_trans h (by decide))
theorem frz_loc0 (a : List Int) : frz [.lst (a.map .int)] fuel (.loc 0) = some (.lst (a.map .int)) := by
  refine frz_loc rfl fun x hx => ?_
  obtain ⟨i, _, rfl⟩ := List.mem_map.mp hx
  rfl
theorem lthere_loop (x0 : Option D) (lh : LH) : ∀ (rows : List (List Int)) (acc : List Int) (x2 : Option D), acc.length + rows.flatten.length ≤ 400 → ∃ y2, sForL (gbName 2) b0__law_there (rows.map rowD) [x0, some (.lst (acc.map .int)), x2] lh = .nx [x0, some (.lst ((acc ++ rows.flatten).map .int)), y2] lh
  | [], acc, x2, _ => ⟨x2, by simp; rfl⟩
  | r :: rows, acc, x2, h => by
    simp only [List.flatten_cons, List.length_append] at h
    obtain ⟨y2, e⟩ := lthere_loop x0 lh rows (acc ++ r) (some (rowD r)) (by rw [List.length_append]; omega)
    refine ⟨y2, ?_⟩
    rw [List.map_cons, forL_cons]
    have hl : ∀ lh, lisG lh [rowD r] = .l (r.map .int) := fun lh => rfl
    have ha := addI lh acc r (by omega)
    have st : b0__law_there [x0, some (.lst (acc.map .int)), some (rowD r)] lh = .nx [x0, some (.lst ((acc ++ r).map .int)), some (rowD r)] lh := by
      simp [b0__law_there, hl, ha]
    show (match b0__law_there [x0, some (.lst (acc.map .int)), some (rowD r)] lh with
      | .nx τ lh => _ | .bk τ lh => _ | .rt d lh => _ | .exc c τ lh => _ | .stuck => _) = _
    rw [st, List.flatten_cons, ← List.append_assoc]
    exact e
theorem lthere_call (s : Stand) (hE : -1 ≤ s.2.2) (hl : s.1.flatten.length ≤ 300) (lh : LH) : callP f__law_there [stD s] lh = .ok (.lst ((th s).map .int)) lh := by
  obtain ⟨rows, place, e⟩ := s
  simp only at hE hl
  have run : f__law_there [stD (rows, place, e)] [] = .ok (.loc 0) [.lst ((th (rows, place, e)).map .int)] := by
    have s0 : ∃ acc : List Int, acc = (if 0 ≤ e then [e] else []) ∧ (sSet 1 (eIf (t2 neG (e2 false ixG (eVar 0) (eC (.int 2))) (e1 false negG (eC (.int 1)))) (eLst false (aCons (e2 false ixG (eVar 0) (eC (.int 2))) aNil)) (eLst false aNil))) [some (stD (rows, place, e)), none, none] [] = .nx [some (stD (rows, place, e)), some (.lst (acc.map .int)), none] [] := by
      have hs : (1 : Nat) ≤ sizeLine := by decide
      have hx : ∀ lh, ixG lh (stD (rows, place, e)) (.int 2) = .v (.int e) := fun lh => ix_eng lh (rows, place, e)
      have hn : ∀ lh, negG lh (.int 1) = .v (.int (-1)) := fun lh => rfl
      have hq := Enc.int.ne e (-1) []
      have hq2 : neG [] (.int e) (.int (-1)) = .v (.bl (!decide (e = -1))) := hq
      by_cases he : 0 ≤ e
      · refine ⟨[e], by rw [if_pos he], ?_⟩
        have : ¬ e = -1 := by omega
        simp [hx, hn, hq2, this, hs]
      · refine ⟨[], by rw [if_neg he], ?_⟩
        have : e = -1 := by omega
        subst this
        simp [hx, hn, hq2, hs]
    obtain ⟨acc, ha, s0⟩ := s0
    have hla : acc.length ≤ 1 := by rw [ha]; split <;> simp
    obtain ⟨y2, s1⟩ := lthere_loop (some (stD (rows, place, e))) [] rows acc none (by omega)
    have et : th (rows, place, e) = isort Enc.int.le (acc ++ rows.flatten) := by rw [ha]; rfl
    have s2 := sortI [] (acc ++ rows.flatten) (by rw [List.length_append]; omega)
    have hx0 : ∀ lh, ixG lh (stD (rows, place, e)) (.int 0) = .v (.tup (rows.map rowD)) := fun lh => z_ixT (i := 0) rfl
    unfold f__law_there fnM
    show (match (sSeq _ (sSeq (sFor 0 (iOf (e2 false ixG (eVar 0) (eC (.int 0)))) (gbName 2) b0__law_there) (sRet (eCall true sortA (aCons (eVar 1) aNil))))) [some (stD (rows, place, e)), none, none] [] with
      | .nx _ lh => Res.ok D.non lh | .rt d lh => .ok d lh | .exc c _ lh => .exc c lh | .bk _ _ => .stuck | .stuck => .stuck) = _
    rw [z_seq, s0, z_sq1, z_seq, z_for]
    have hit : (iOf (e2 false ixG (eVar 0) (eC (.int 0)))) [some (stD (rows, place, e)), some (.lst (acc.map .int)), none] [] = .ok (.st (rows.map rowD)) [] := by
      simp [hx0, asS]
    rw [hit, z_toS]
    show (match (SRes.seq (sForL (gbName 2) b0__law_there (rows.map rowD) [some (stD (rows, place, e)), some (.lst (acc.map .int)), none] []) _) with
      | .nx _ lh => Res.ok D.non lh | .rt d lh => .ok d lh | .exc c _ lh => .exc c lh | .bk _ _ => .stuck | .stuck => .stuck) = _
    rw [s1, z_sq1, et]
    simp only [z_ret, z_call, z_ac, z_an, z_var]
    show (match ((((Res.ok (D.lst ((acc ++ rows.flatten).map .int)) ([] : LH)).bind _).bind _).toS _ _) with
      | .nx _ lh => Res.ok D.non lh | .rt d lh => .ok d lh | .exc c _ lh => .exc c lh | .bk _ _ => .stuck | .stuck => .stuck) = _
    simp only [z_ok, s2]
    rfl
  exact callP_of2 (args1 (frz_st _ 8 _)) run (frz_loc0 _)
end Lw

namespace Lw
open PySem Tb
/-! ### the deeds that keep to an order -/
def dueI (o : List Int) (s : Stand) : Int := o.getD (o.length - (thr s).length) 0
def stp1 (ls : List (Int × List Int)) (o : List Int) (s : Stand) (w : Wd) : Option (Wd × Stand) := match beh ls s w with
  | some t => if w ≠ .out ∨ s.2.2 = dueI o s then some (w, t) else none
  | none => none
abbrev five : List Wd := [.left, .out, .put, .right, .take]
def stps (ls : List (Int × List Int)) (o : List Int) (s : Stand) : List (Wd × Stand) := five.filterMap (stp1 ls o s)
def stepE : Enc (Wd × Stand) := Enc.pair wdE stE
abbrev stepD (p : Wd × Stand) : D := stepE.d p
def lastB (s : Stand) : Bool := decide (s.2.1 = 0) && (decide (0 ≤ s.2.2) && decide (th s = [s.2.2]))
/-- a stand on the way: some engine is there, not more than the order tells -/
structure On (ls : List (Int × List Int)) (o : List Int) (s : Stand) : Prop where
  good : Good ls.length s
  lo : 1 ≤ (thr s).length
  hi : (thr s).length ≤ o.length
theorem On.flat {ls : List (Int × List Int)} {o : List Int} {s : Stand} (Y : Yard ls) (h : On ls o s) : s.1.flatten.length ≤ 300 := Nat.le_trans (good_flat h.good Y.hi) (by decide)
theorem ixI (lh : LH) (o : List Int) (k : Nat) (h : k < o.length) : ixG lh (.lst (o.map .int)) (.int (k : Nat)) = .v (.int (o.getD k 0)) := by
  have e : (o.map D.int)[k]? = some (.int (o.getD k 0)) := by
    rw [List.getElem?_map, List.getElem?_eq_getElem h]
    simp [List.getD, List.getElem?_eq_getElem h]
  exact z_ixL e
theorem frz_oD (lh : LH) (n : Nat) (o : List Int) : frz lh (n + 2) (.lst (o.map .int)) = some (.lst (o.map .int)) := Enc.int.lst.frzAt lh (n + 2) (by show 2 ≤ n + 2; omega) o
theorem frz_steps (l : List (Wd × Stand)) : frz [.lst (l.map stepD)] fuel (.loc 0) = some (.lst (l.map stepD)) := frz_loc rfl fun x hx => by
  obtain ⟨p, _, rfl⟩ := List.mem_map.mp hx
  exact stepE.frzAt _ 11 (by decide) p
theorem isNotSt (lh : LH) (o : Option Stand) : isNotG lh (opD o) .non = .v (.bl o.isSome) := by cases o <;> rfl
theorem neOut (lh : LH) (w : Wd) : neG lh (.str w.s) (.str "out") = .v (.bl (!decide (w = .out))) := wdE.ne w .out lh
theorem eqInt (lh : LH) (a b : Int) : eqG lh (.int a) (.int b) = .v (.bl (decide (a = b))) := Enc.int.eq a b lh
theorem neInt (lh : LH) (a b : Int) : neG lh (.int a) (.int b) = .v (.bl (!decide (a = b))) := Enc.int.ne a b lh
theorem lsteps_loop {ls : List (Int × List Int)} {s : Stand} (Y : Yard ls) (g : Good ls.length s) (o : List Int) (x1 : Option D) : ∀ (ws : List Wd) (acc : List (Wd × Stand)) (x5 x6 : Option D), acc.length + ws.length ≤ 100 →
    ∃ y5 y6, sForL (gbName 5) b0__law_steps (wsD ws) [some (linesD ls), x1, some (stD s), some (.loc 0), some (.int (dueI o s)), x5, x6] [.lst (acc.map stepD)] = .nx [some (linesD ls), x1, some (stD s), some (.loc 0), some (.int (dueI o s)), y5, y6] [.lst ((acc ++ ws.filterMap (stp1 ls o s)).map stepD)]
  | [], acc, x5, x6, _ => ⟨x5, x6, by simp; rfl⟩
  | w :: ws, acc, x5, x6, h => by
    simp only [List.length_cons] at h
    have hc := lbehind_call Y g w
    have hb : ∃ l, (l = [] ∨ ∃ p, l = [p]) ∧ ((w :: ws).filterMap (stp1 ls o s) = l ++ ws.filterMap (stp1 ls o s)) ∧ b0__law_steps [some (linesD ls), x1, some (stD s), some (.loc 0), some (.int (dueI o s)), some (.str w.s), x6] [.lst (acc.map stepD)] = .nx [some (linesD ls), x1, some (stD s), some (.loc 0), some (.int (dueI o s)), some (.str w.s), some (opD (beh ls s w))] [.lst ((acc ++ l).map stepD)] := by
      have hx := fun lh => ix_eng lh s
      cases q : beh ls s w with
      | none =>
        rw [q] at hc
        refine ⟨[], .inl rfl, by simp [stp1, q], ?_⟩
        have i0 := fun lh => isNotSt lh none
        simp [b0__law_steps, hc, i0]
      | some t =>
        rw [q] at hc
        have i0 := fun lh => isNotSt lh (some t)
        have ha : (acc.map stepD).length < sizeLine := Nat.lt_of_le_of_lt (by rw [List.length_map]; omega) (show 100 < sizeLine by decide)
        have a2 : ∀ lh, apG lh (acc.map stepD) (.tup [.str w.s, stD t]) = some ((acc ++ [(w, t)]).map stepD, .non) := fun lh => by
          unfold apG
          rw [if_pos ha, List.map_append]
          rfl
        have l1 : locL [.lst (acc.map stepD)] (.loc 0) = some (0, acc.map stepD) := rfl
        have l2 : lstAt [.lst (acc.map stepD)] 0 = some (acc.map stepD) := rfl
        have od : opD (some t) = stD t := rfl
        by_cases hw : w ≠ .out ∨ s.2.2 = dueI o s
        · refine ⟨[(w, t)], .inr ⟨_, rfl⟩, by simp [stp1, q, hw], ?_⟩
          have ev : eTup (aCons (eVar 5) (aCons (eVar 6) aNil)) [some (linesD ls), x1, some (stD s), some (.loc 0), some (.int (dueI o s)), some (.str w.s), some (stD t)] [.lst (acc.map stepD)] = .ok (.tup [.str w.s, stD t]) [.lst (acc.map stepD)] := rfl
          have st : (sDrop (eMt apG (eVar 3) (eTup (aCons (eVar 5) (aCons (eVar 6) aNil))))) [some (linesD ls), x1, some (stD s), some (.loc 0), some (.int (dueI o s)), some (.str w.s), some (stD t)] [.lst (acc.map stepD)] = .nx [some (linesD ls), x1, some (stD s), some (.loc 0), some (.int (dueI o s)), some (.str w.s), some (stD t)] [.lst ((acc ++ [(w, t)]).map stepD)] := by
            rw [z_drop, z_mt]
            show ((Res.ok (D.loc 0) [.lst (acc.map stepD)]).bind _).toS _ _ = _
            rw [z_ok, l1]
            simp only [ev, z_ok, l2, a2]
            rfl
          have tt : (tAndD (t2 isNotG (eVar 6) (eC .non)) (tOrD (t2 neG (eVar 5) (eC (.str "out"))) (t2 eqG (e2 false ixG (eVar 2) (eC (.int 2))) (eVar 4)))) [some (linesD ls), x1, some (stD s), some (.loc 0), some (.int (dueI o s)), some (.str w.s), some (stD t)] [.lst (acc.map stepD)] = .ok true [.lst (acc.map stepD)] := by
            rw [od] at i0
            by_cases ho : w = .out
            · have hd : s.2.2 = dueI o s := hw.resolve_left (fun z => z ho)
              simp [i0, neOut, ho, hx, eqInt, hd]
            · simp [i0, neOut, ho]
          unfold b0__law_steps
          rw [z_seq]
          have s0 : (sSet 6 (eCallP 3 f__law_behind (aCons (eVar 0) (aCons (eVar 2) (aCons (eVar 5) aNil))))) [some (linesD ls), x1, some (stD s), some (.loc 0), some (.int (dueI o s)), some (.str w.s), x6] [.lst (acc.map stepD)] = .nx [some (linesD ls), x1, some (stD s), some (.loc 0), some (.int (dueI o s)), some (.str w.s), some (stD t)] [.lst (acc.map stepD)] := by
            simp [hc, od]
          rw [s0, z_sq1, z_sif, tt, z_toS, if_pos rfl, st]
          rfl
        · refine ⟨[], .inl rfl, by simp [stp1, q, hw], ?_⟩
          simp only [not_or, Classical.not_not] at hw
          obtain ⟨h1, h2⟩ := hw
          rw [od] at i0
          subst h1
          have nO : ∀ lh, neG lh (.str Wd.out.s) (.str "out") = .v (.bl false) := fun lh => neOut lh .out
          simp [b0__law_steps, hc, od, i0, nO, hx, eqInt, h2]
    obtain ⟨l, hl, e1', e2'⟩ := hb
    have hlen : l.length ≤ 1 := by rcases hl with rfl | ⟨p, rfl⟩ <;> simp
    obtain ⟨y5, y6, e3⟩ := lsteps_loop Y g o x1 ws (acc ++ l) (some (.str w.s)) (some (opD (beh ls s w))) (by simp; omega)
    refine ⟨y5, y6, ?_⟩
    rw [show wsD (w :: ws) = .str w.s :: wsD ws from rfl, forL_cons]
    show (match b0__law_steps [some (linesD ls), x1, some (stD s), some (.loc 0), some (.int (dueI o s)), some (.str w.s), x6] [.lst (acc.map stepD)] with
      | .nx τ lh => _ | .bk τ lh => _ | .rt d lh => _ | .exc c τ lh => _ | .stuck => _) = _
    rw [e2', e1', ← List.append_assoc]
    exact e3
theorem lsteps_call {ls : List (Int × List Int)} {s : Stand} {o : List Int} (Y : Yard ls) (h : On ls o s) (lh : LH) : callP f__law_steps [linesD ls, .lst (o.map .int), stD s] lh = .ok (.lst ((stps ls o s).map stepD)) lh := by
  have ht := fun lh => lthere_call s h.good.eng (h.flat Y) lh
  have lo := h.lo
  have hi := h.hi
  have run : f__law_steps [linesD ls, .lst (o.map .int), stD s] [] = .ok (.loc 0) [.lst ((stps ls o s).map stepD)] := by
    obtain ⟨y5, y6, e⟩ := lsteps_loop Y h.good o (some (.lst (o.map .int))) five [] none none (by decide)
    have hl : ∀ lh, lenG lh [.lst (o.map .int)] = .v (.int o.length) := fun lh => by
      show Ro.v (.int ((o.map D.int).length : Int)) = _
      rw [List.length_map]
    have hl2 : ∀ lh, lenG lh [.lst ((th s).map .int)] = .v (.int (thr s).length) := fun lh => by
      show Ro.v (.int (((th s).map D.int).length : Int)) = _
      rw [List.length_map, th_len]
    have hix := fun lh => ixI lh o (o.length - (thr s).length) (by omega)
    rw [show ((o.length - (thr s).length : Nat) : Int) = (o.length : Int) - ((thr s).length : Int) by omega] at hix
    have s0 : (sPar [3, 4] (aCons (eLst true aNil) (aCons (e2 false ixG (eVar 1) (e2 false subG (eCall false lenG (aCons (eVar 1) aNil)) (eCall false lenG (aCons (eCallP 1 f__law_there (aCons (eVar 2) aNil)) aNil)))) aNil))) [some (linesD ls), some (.lst (o.map .int)), some (stD s), none, none, none, none] [] = .nx [some (linesD ls), some (.lst (o.map .int)), some (stD s), some (.loc 0), some (.int (dueI o s)), none, none] [.lst []] := by
      have hs : (0 : Nat) ≤ sizeLine := by decide
      simp [hl, hl2, ht, hix, dueI]
    have s5 : (5 : Nat) ≤ sizeLine := by decide
    unfold f__law_steps fnM
    show (match (sSeq (sPar [3, 4] _) (sSeq (sFor 0 (iOf (eTup (aCons (eC (.str "left")) (aCons (eC (.str "out")) (aCons (eC (.str "put")) (aCons (eC (.str "right")) (aCons (eC (.str "take")) aNil))))))) (gbName 5) b0__law_steps) (sRet (eVar 3)))) [some (linesD ls), some (.lst (o.map .int)), some (stD s), none, none, none, none] [] with
      | .nx _ lh => Res.ok D.non lh | .rt d lh => .ok d lh | .exc c _ lh => .exc c lh | .bk _ _ => .stuck | .stuck => .stuck) = _
    rw [z_seq, s0, z_sq1, z_seq]
    show (match (SRes.seq (sForL (gbName 5) b0__law_steps (wsD five) [some (linesD ls), some (.lst (o.map .int)), some (stD s), some (.loc 0), some (.int (dueI o s)), none, none] [.lst ([].map stepD)]) _) with
      | .nx _ lh => Res.ok D.non lh | .rt d lh => .ok d lh | .exc c _ lh => .exc c lh | .bk _ _ => .stuck | .stuck => .stuck) = _
    rw [e, z_sq1]
    rfl
  exact callP_of2 (args3 (frz_lines _ 8 ls) (frz_oD _ 10 o) (frz_st _ 8 s)) run (frz_steps _)
theorem llast_call (s : Stand) (hE : -1 ≤ s.2.2) (hl : s.1.flatten.length ≤ 300) (lh : LH) : callP f__law_last [stD s] lh = .ok (.bl (lastB s)) lh := by
  have ht := fun lh => lthere_call s hE hl lh
  have h1 : ∀ lh, ixG lh (stD s) (.int 1) = .v (.int (s.2.1 : Nat)) := fun lh => z_ixT (i := 1) rfl
  have h2 := fun lh => ix_eng lh s
  have hn : ∀ lh, negG lh (.int 1) = .v (.int (-1)) := fun lh => rfl
  have hq : ∀ lh, eqG lh (.lst ((th s).map .int)) (.lst [.int s.2.2]) = .v (.bl (decide (th s = [s.2.2]))) := fun lh => eqInts (th s) [s.2.2] lh
  have s1 : (1 : Nat) ≤ sizeLine := by decide
  have run : f__law_last [stD s] [] = .ok (.bl (lastB s)) [] := by
    by_cases c1 : s.2.1 = 0
    · by_cases c2 : 0 ≤ s.2.2
      · have c3 : ¬ s.2.2 = -1 := by omega
        simp [f__law_last, m__law_last, fnM, h1, h2, hn, eqInt, neInt, c1, c2, c3, truD, ht, s1, hq, lastB, beqI]
      · have c3 : s.2.2 = -1 := by omega
        simp [f__law_last, m__law_last, fnM, h1, h2, hn, eqInt, neInt, c1, c3, truD, lastB, beqI]
    · have c1' : ¬ ((s.2.1 : Nat) : Int) = 0 := by omega
      simp [f__law_last, m__law_last, fnM, h1, h2, hn, eqInt, neInt, c1, c1', truD, lastB, beqI]
  exact callP_of (args1 (frz_st _ 8 s)) run rfl
end Lw

namespace Lw
open PySem Tb
/-! ### the deeds keep the engines -/
theorem flat_set : ∀ (rows : List (List Int)) (p : Nat) (h : p < rows.length) (r : List Int), (rows.set p r).flatten.length + (rows[p]).length = rows.flatten.length + r.length
  | a :: rows, 0, h, r => by simp only [List.set_cons_zero, List.flatten_cons, List.length_append, List.getElem_cons_zero]; omega
  | a :: rows, p + 1, h, r => by
    have := flat_set rows p (by simpa using h) r
    simp only [List.set_cons_succ, List.flatten_cons, List.length_append, List.getElem_cons_succ]
    omega
theorem thr_length (s : Stand) : (thr s).length = (if 0 ≤ s.2.2 then 1 else 0) + s.1.flatten.length := by
  unfold thr
  rw [List.length_append]
  split <;> simp
theorem thr_beh {ls : List (Int × List Int)} {s t : Stand} (g : Good ls.length s) (w : Wd) (h : beh ls s w = some t) : (thr t).length + (if w = .out then 1 else 0) = (thr s).length := by
  obtain ⟨rows, place, e⟩ := s
  obtain ⟨g1, g2, g3, g4⟩ := g
  simp only at g1 g2 g3 g4
  have hp : place < rows.length := by omega
  have er : rows[place]? = some rows[place] := List.getElem?_eq_getElem hp
  rw [thr_length, thr_length]
  cases w with
  | left => cases h; simp
  | right => cases h; simp
  | take =>
    simp only [beh, er] at h
    cases q : rows[place] with
    | nil => rw [q] at h; cases h
    | cons a r =>
      rw [q] at h
      simp only at h
      split at h
      · cases h
      · rename_i he
        cases h
        have f := flat_set rows place hp r
        rw [q] at f
        have ha := (g3 _ (List.getElem_mem hp)).2 a (by rw [q]; exact List.mem_cons_self)
        simp only [List.length_cons] at f
        simp only [ha, he, if_true, if_false]
        simp
        simp at f
        omega
  | put =>
    have eq : ls[place]? = some ls[place] := List.getElem?_eq_getElem g2
    simp only [beh, er, eq] at h
    split at h
    · cases h
    · rename_i hc
      cases h
      have hc2 : 0 ≤ e := by
        have : ¬ e < 0 := fun z => hc (.inl z)
        omega
      have f := flat_set rows place hp (e :: rows[place])
      simp only [List.length_cons] at f
      simp only [hc2, if_true]
      simp
      simp at f
      omega
  | out =>
    simp only [beh] at h
    split at h
    · rename_i hc
      cases h
      simp only [hc.1, if_true]
      simp
      omega
    · cases h
/-- engines 0, 1, 2 -/
structure Few (s : Stand) : Prop where
  row : ∀ r ∈ s.1, ∀ z ∈ r, z < 3
  eng : s.2.2 < 3
theorem few_beh {ls : List (Int × List Int)} {s t : Stand} (g : Good ls.length s) (f : Few s) (w : Wd) (h : beh ls s w = some t) : Few t := by
  obtain ⟨rows, place, e⟩ := s
  obtain ⟨g1, g2, g3, g4⟩ := g
  obtain ⟨f1, f2⟩ := f
  simp only at g1 g2 g3 g4 f1 f2
  have hp : place < rows.length := by omega
  have er : rows[place]? = some rows[place] := List.getElem?_eq_getElem hp
  cases w with
  | left => cases h; exact ⟨f1, f2⟩
  | right => cases h; exact ⟨f1, f2⟩
  | take =>
    simp only [beh, er] at h
    have hm := f1 _ (List.getElem_mem hp)
    cases q : rows[place] with
    | nil => rw [q] at h; cases h
    | cons a r =>
      rw [q] at h hm
      simp only at h
      split at h
      · cases h
      · cases h
        refine ⟨fun x hx z hz => ?_, hm a List.mem_cons_self⟩
        rcases List.mem_or_eq_of_mem_set hx with hx | rfl
        · exact f1 x hx z hz
        · exact hm z (List.mem_cons_of_mem _ hz)
  | put =>
    have eq : ls[place]? = some ls[place] := List.getElem?_eq_getElem g2
    simp only [beh, er, eq] at h
    split at h
    · cases h
    · cases h
      refine ⟨fun x hx z hz => ?_, by show (-1 : Int) < 3; omega⟩
      rcases List.mem_or_eq_of_mem_set hx with hx | rfl
      · exact f1 x hx z hz
      · rcases List.mem_cons.mp hz with rfl | hz
        · exact f2
        · exact f1 _ (List.getElem_mem hp) z hz
  | out =>
    simp only [beh] at h
    split at h
    · cases h; exact ⟨f1, by show (-1 : Int) < 3; omega⟩
    · cases h
theorem stps_mem {ls : List (Int × List Int)} {o : List Int} {s : Stand} {p : Wd × Stand} (h : p ∈ stps ls o s) : beh ls s p.1 = some p.2 := by
  obtain ⟨w, _, hw⟩ := List.mem_filterMap.mp h
  unfold stp1 at hw
  split at hw
  · rename_i t ht
    split at hw
    · cases hw; exact ht
    · cases hw
  · cases hw
theorem last_one {s : Stand} (h0 : s.2.1 = 0) (h1 : 0 ≤ s.2.2) (h : (thr s).length = 1) : lastB s = true := by
  have : thr s = [s.2.2] := by
    rw [thr_length, if_pos h1] at h
    unfold thr
    rw [if_pos h1, List.eq_nil_of_length_eq_zero (show s.1.flatten.length = 0 by omega)]
    rfl
  have ht : th s = [s.2.2] := by
    unfold th
    rw [this]
    rfl
  unfold lastB
  rw [ht]
  simp [h0, h1]
theorem on_step {ls : List (Int × List Int)} {o : List Int} {s : Stand} {p : Wd × Stand} (Y : Yard ls) (h : On ls o s) (hp : p ∈ stps ls o s) (hn : ¬ (p.1 = .out ∧ lastB s = true)) : On ls o p.2 := by
  have hb := stps_mem hp
  have ht := thr_beh h.good _ hb
  have lo := h.lo
  have hi := h.hi
  refine ⟨beh_good Y h.good _ hb, ?_, by omega⟩
  by_cases hw : p.1 = .out
  · rw [if_pos hw] at ht
    have : (thr s).length ≠ 1 := fun z => hn ⟨hw, by
      rw [hw] at hb
      simp only [beh] at hb
      split at hb
      · rename_i hc
        exact last_one hc.2 hc.1 z
      · cases hb⟩
    omega
  · rw [if_neg hw] at ht
    omega
/-! ### a stand among finitely many -/
def rowsU : List (List Int) := [[], [0], [1], [2], [0, 0], [0, 1], [0, 2], [1, 0], [1, 1], [1, 2], [2, 0], [2, 1], [2, 2]]
def allRows : Nat → List (List (List Int))
  | 0 => [[]]
  | n + 1 => rowsU.flatMap fun r => (allRows n).map (r :: ·)
def univ (n : Nat) : List Stand := (allRows n).flatMap fun R => (List.range n).flatMap fun p => [-1, 0, 1, 2].map fun e => (R, p, e)
theorem row_mem {r : List Int} (h1 : r.length ≤ 2) (h2 : ∀ z ∈ r, 0 ≤ z ∧ z < 3) : r ∈ rowsU := by
  match r, h1 with
  | [], _ => decide
  | [a], _ =>
    have := h2 a (by simp)
    have q : a = 0 ∨ a = 1 ∨ a = 2 := by omega
    rcases q with rfl | rfl | rfl <;> decide
  | [a, b], _ =>
    have x := h2 a (by simp)
    have y := h2 b (by simp)
    have q : a = 0 ∨ a = 1 ∨ a = 2 := by omega
    have q2 : b = 0 ∨ b = 1 ∨ b = 2 := by omega
    rcases q with rfl | rfl | rfl <;> rcases q2 with rfl | rfl | rfl <;> decide
theorem allRows_mem : ∀ (n : Nat) (R : List (List Int)), R.length = n → (∀ r ∈ R, r ∈ rowsU) → R ∈ allRows n
  | 0, R, h, _ => by
    rw [List.eq_nil_of_length_eq_zero h]
    simp [allRows]
  | n + 1, r :: R, h, hr => by
    simp only [allRows, List.mem_flatMap, List.mem_map]
    exact ⟨r, hr r List.mem_cons_self, R, allRows_mem n R (by simpa using h) fun x hx => hr x (List.mem_cons_of_mem _ hx), rfl⟩
theorem univ_mem {n : Nat} {s : Stand} (g : Good n s) (f : Few s) : s ∈ univ n := by
  obtain ⟨rows, place, e⟩ := s
  obtain ⟨g1, g2, g3, g4⟩ := g
  obtain ⟨f1, f2⟩ := f
  simp only at g1 g2 g3 g4 f1 f2
  simp only [univ, List.mem_flatMap, List.mem_map, List.mem_range]
  refine ⟨rows, allRows_mem n rows g1 fun r hr => row_mem (g3 r hr).1 fun z hz => ⟨(g3 r hr).2 z hz, f1 r hr z hz⟩, place, g2, e, ?_, rfl⟩
  have q : e = -1 ∨ e = 0 ∨ e = 1 ∨ e = 2 := by omega
  rcases q with rfl | rfl | rfl | rfl <;> decide
theorem len_allRows : ∀ n, (allRows n).length = 13 ^ n
  | 0 => rfl
  | n + 1 => by
    have ih := len_allRows n
    simp only [allRows, rowsU, List.flatMap_cons, List.flatMap_nil, List.length_append, List.length_map, List.length_nil, ih]
    omega
theorem len_flat {α β : Type} (f : α → List β) (k : Nat) (h : ∀ a, (f a).length = k) : ∀ l : List α, (l.flatMap f).length = l.length * k
  | [] => by simp
  | a :: l => by
    rw [List.flatMap_cons, List.length_append, h a, len_flat f k h l, List.length_cons, Nat.add_mul, Nat.one_mul, Nat.add_comm]
theorem len_univ (n : Nat) : (univ n).length = 13 ^ n * (n * 4) := by
  unfold univ
  rw [len_flat _ (n * 4) (fun R => by rw [len_flat _ 4 (fun p => rfl), List.length_range]), len_allRows]
theorem len_univ3 {n : Nat} (h : n ≤ 3) : (univ n).length ≤ 26364 := by
  rw [len_univ]
  match n, h with
  | 0, _ => decide
  | 1, _ => decide
  | 2, _ => decide
  | 3, _ => decide
theorem pigeon {α : Type} [DecidableEq α] : ∀ (l m : List α), l.Nodup → (∀ a ∈ l, a ∈ m) → l.length ≤ m.length
  | [], m, _, _ => Nat.zero_le _
  | a :: l, m, hn, h => by
    have hn2 := List.nodup_cons.mp hn
    have hm := h a List.mem_cons_self
    have ih := pigeon l (m.erase a) hn2.2 fun b hb => (List.mem_erase_of_ne (fun z => hn2.1 (by rw [← z]; exact hb))).mpr (h b (List.mem_cons_of_mem _ hb))
    rw [List.length_erase_of_mem hm] at ih
    have : 0 < m.length := List.length_pos_of_mem hm
    rw [List.length_cons]
    omega
/-! ### the stands on the way, level by level -/
section
variable {β : Type}
abbrev Fd (β : Type) := List (Stand × β)
def edge (val : Fd β → Stand → Wd → β) (s : Stand) (st : Fd β × List Stand) (p : Wd × Stand) : Fd β × List Stand :=
  if p.2 ∈ st.1.map (·.1) ∨ (p.1 = .out ∧ lastB s = true) then st else (st.1 ++ [(p.2, val st.1 s p.1)], st.2 ++ [p.2])
def visit (ls : List (Int × List Int)) (o : List Int) (val : Fd β → Stand → Wd → β) (st : Fd β × List Stand) (s : Stand) : Fd β × List Stand := (stps ls o s).foldl (edge val s) st
def level (ls : List (Int × List Int)) (o : List Int) (val : Fd β → Stand → Wd → β) (F : Fd β) (line : List Stand) : Fd β × List Stand := line.foldl (visit ls o val) (F, [])
def bfs (ls : List (Int × List Int)) (o : List Int) (val : Nat → Fd β → Stand → Wd → β) : Nat → Nat → Fd β → List Stand → Fd β
  | 0, _, F, _ => F
  | k + 1, m, F, line => if line = [] then F else bfs ls o val k (m + 1) (level ls o (val (m + 1)) F line).1 (level ls o (val (m + 1)) F line).2
/-- what holds of them -/
structure Bf (ls : List (Int × List Int)) (o : List Int) (F : Fd β) (line : List Stand) : Prop where
  nd : (F.map (·.1)).Nodup
  on : ∀ x ∈ F, On ls o x.1 ∧ Few x.1
  sub : ∀ s ∈ line, s ∈ F.map (·.1)
theorem Bf.len {ls : List (Int × List Int)} {o : List Int} {F : Fd β} {line : List Stand} (Y : Yard ls) (B : Bf ls o F line) : F.length ≤ 26364 := by
  have := pigeon (F.map (·.1)) (univ ls.length) B.nd fun a ha => by
    obtain ⟨x, hx, rfl⟩ := List.mem_map.mp ha
    exact univ_mem (B.on x hx).1.good (B.on x hx).2
  rw [List.length_map] at this
  exact Nat.le_trans this (len_univ3 Y.hi)
theorem Bf.edge {ls : List (Int × List Int)} {o : List Int} {st : Fd β × List Stand} (Y : Yard ls) (B : Bf ls o st.1 st.2) (val : Fd β → Stand → Wd → β) {s : Stand} (hs : On ls o s) (hf : Few s) {p : Wd × Stand} (hp : p ∈ stps ls o s) : Bf ls o (Lw.edge val s st p).1 (Lw.edge val s st p).2 := by
  unfold Lw.edge
  split
  · exact B
  · rename_i hc
    refine ⟨?_, fun x hx => ?_, fun t ht => ?_⟩
    · rw [List.map_append, List.nodup_append]
      refine ⟨B.nd, by simp, fun a ha b hb => ?_⟩
      simp only [List.map_cons, List.map_nil, List.mem_singleton] at hb
      subst hb
      rintro rfl
      exact hc (.inl ha)
    · rcases List.mem_append.mp hx with hx | hx
      · exact B.on x hx
      · rw [List.mem_singleton.mp hx]
        exact ⟨on_step Y hs hp fun z => hc (.inr z), few_beh hs.good hf _ (stps_mem hp)⟩
    · rw [List.map_append]
      rcases List.mem_append.mp ht with ht | ht
      · exact List.mem_append.mpr (.inl (B.sub t ht))
      · rw [List.mem_singleton.mp ht]
        exact List.mem_append.mpr (.inr (by simp))
theorem Bf.fold {ls : List (Int × List Int)} {o : List Int} (Y : Yard ls) (val : Fd β → Stand → Wd → β) {s : Stand} (hs : On ls o s) (hf : Few s) : ∀ (ps : List (Wd × Stand)) (st : Fd β × List Stand), (∀ p ∈ ps, p ∈ stps ls o s) → Bf ls o st.1 st.2 → Bf ls o (ps.foldl (Lw.edge val s) st).1 (ps.foldl (Lw.edge val s) st).2
  | [], st, _, B => B
  | p :: ps, st, h, B => Bf.fold Y val hs hf ps _ (fun q hq => h q (List.mem_cons_of_mem _ hq)) (B.edge Y val hs hf (h p List.mem_cons_self))
/-- nothing goes away -/
theorem edge_ext (val : Fd β → Stand → Wd → β) (s : Stand) (st : Fd β × List Stand) (p : Wd × Stand) : ∃ e, (edge val s st p).1 = st.1 ++ e ∧ (edge val s st p).2 = st.2 ++ e.map (·.1) := by
  unfold edge
  split
  · exact ⟨[], by simp, by simp⟩
  · exact ⟨[(p.2, val st.1 s p.1)], rfl, rfl⟩
theorem fold_ext (val : Fd β → Stand → Wd → β) (s : Stand) : ∀ (ps : List (Wd × Stand)) (st : Fd β × List Stand), ∃ e, (ps.foldl (edge val s) st).1 = st.1 ++ e ∧ (ps.foldl (edge val s) st).2 = st.2 ++ e.map (·.1)
  | [], st => ⟨[], by simp, by simp⟩
  | p :: ps, st => by
    obtain ⟨e1, h1, h2⟩ := edge_ext val s st p
    obtain ⟨e2, h3, h4⟩ := fold_ext val s ps (edge val s st p)
    refine ⟨e1 ++ e2, ?_, ?_⟩
    · rw [List.foldl_cons, h3, h1, List.append_assoc]
    · rw [List.foldl_cons, h4, h2, List.map_append, List.append_assoc]
theorem visits_ext (ls : List (Int × List Int)) (o : List Int) (val : Fd β → Stand → Wd → β) : ∀ (line : List Stand) (st : Fd β × List Stand), ∃ e, (line.foldl (visit ls o val) st).1 = st.1 ++ e ∧ (line.foldl (visit ls o val) st).2 = st.2 ++ e.map (·.1)
  | [], st => ⟨[], by simp, by simp⟩
  | s :: line, st => by
    obtain ⟨e1, h1, h2⟩ := fold_ext val s (stps ls o s) st
    obtain ⟨e2, h3, h4⟩ := visits_ext ls o val line (visit ls o val st s)
    refine ⟨e1 ++ e2, ?_, ?_⟩
    · rw [List.foldl_cons, h3]
      show (visit ls o val st s).1 ++ e2 = _
      rw [show (visit ls o val st s).1 = st.1 ++ e1 from h1, List.append_assoc]
    · rw [List.foldl_cons, h4, show (visit ls o val st s).2 = st.2 ++ e1.map (·.1) from h2, List.map_append, List.append_assoc]
theorem Bf.level {ls : List (Int × List Int)} {o : List Int} (Y : Yard ls) (val : Fd β → Stand → Wd → β) : ∀ (line : List Stand) (st : Fd β × List Stand), (∀ s ∈ line, s ∈ st.1.map (·.1)) → Bf ls o st.1 st.2 → Bf ls o (line.foldl (visit ls o val) st).1 (line.foldl (visit ls o val) st).2
  | [], st, _, B => B
  | s :: line, st, h, B => by
    obtain ⟨x, hx, hxs⟩ := List.mem_map.mp (h s List.mem_cons_self)
    subst hxs
    have b1 := Bf.fold Y val (B.on x hx).1 (B.on x hx).2 (stps ls o x.1) st (fun p hp => hp) B
    obtain ⟨e1, h1, h2⟩ := fold_ext val x.1 (stps ls o x.1) st
    refine Bf.level Y val line (visit ls o val st x.1) (fun t ht => ?_) b1
    show t ∈ ((stps ls o x.1).foldl (Lw.edge val x.1) st).1.map (·.1)
    rw [h1, List.map_append]
    exact List.mem_append.mpr (.inl (h t (List.mem_cons_of_mem _ ht)))
theorem Bf.level0 {ls : List (Int × List Int)} {o : List Int} (Y : Yard ls) (val : Fd β → Stand → Wd → β) {F : Fd β} {line : List Stand} (B : Bf ls o F line) : Bf ls o (Lw.level ls o val F line).1 (Lw.level ls o val F line).2 :=
  Bf.level Y val line (F, []) B.sub ⟨B.nd, B.on, fun _ z => by simp at z⟩
end
end Lw

namespace Lw
open PySem Tb
/-! ### loops by their states -/
theorem forL_seq {g : GB} {b : SM} {xs : List D} (I : Nat → Tau → LH → Prop) (H : ∀ (i : Nat) (d : D), xs[i]? = some d → ∀ τ lh, I i τ lh → ∃ bs, g lh d = some bs ∧ ∃ τ' lh', b (setAll τ (bs.map (·.1)) (bs.map (·.2))) lh = .nx τ' lh' ∧ I (i + 1) τ' lh') :
    ∀ (k i : Nat), k + i = xs.length → ∀ τ lh, I i τ lh → ∃ τ' lh', sForL g b (xs.drop i) τ lh = .nx τ' lh' ∧ I xs.length τ' lh'
  | 0, i, h, τ, lh, hi => by
    rw [List.drop_eq_nil_of_le (by omega)]
    rw [show i = xs.length by omega] at hi
    exact ⟨τ, lh, rfl, hi⟩
  | k + 1, i, h, τ, lh, hi => by
    have hx : i < xs.length := by omega
    obtain ⟨bs, h1, τ1, lh1, h2, h3⟩ := H i xs[i] (List.getElem?_eq_getElem hx) τ lh hi
    obtain ⟨τ2, lh2, h4, h5⟩ := forL_seq I H k (i + 1) (by omega) τ1 lh1 h3
    refine ⟨τ2, lh2, ?_, h5⟩
    rw [List.drop_eq_getElem_cons hx, forL_cons]
    unfold stepG
    rw [h1]
    simp only [h2]
    exact h4
theorem forN_seq {g : GB} {b : SM} {n : Nat} {xs : List D} (I : Nat → Tau → LH → Prop) (hI : ∀ i τ lh, I i τ lh → lstAt lh n = some xs) (H : ∀ (i : Nat) (d : D), xs[i]? = some d → ∀ τ lh, I i τ lh → ∃ bs, g lh d = some bs ∧ ∃ τ' lh', b (setAll τ (bs.map (·.1)) (bs.map (·.2))) lh = .nx τ' lh' ∧ I (i + 1) τ' lh') :
    ∀ (m i : Nat), xs.length < m + i → i ≤ xs.length → ∀ τ lh, I i τ lh → ∃ τ' lh', sForN (.dy n) g b m i τ lh = .nx τ' lh' ∧ I xs.length τ' lh'
  | 0, i, h, h0, τ, lh, hi => by omega
  | m + 1, i, h, h0, τ, lh, hi => by
    unfold sForN
    simp only [Wk.gt, hI i τ lh hi, Option.map_some]
    by_cases hx : i < xs.length
    · have q : xs[i]? = some xs[i] := List.getElem?_eq_getElem hx
      obtain ⟨bs, h1, τ1, lh1, h2, h3⟩ := H i xs[i] q τ lh hi
      obtain ⟨τ2, lh2, h4, h5⟩ := forN_seq I hI H m (i + 1) (by omega) (by omega) τ1 lh1 h3
      refine ⟨τ2, lh2, ?_, h5⟩
      simp only [q]
      unfold stepG
      rw [h1]
      simp only [h2]
      exact h4
    · simp only [List.getElem?_eq_none (Nat.le_of_not_lt hx)]
      rw [show i = xs.length by omega] at hi
      exact ⟨τ, lh, rfl, hi⟩
theorem forW_seq {g : GB} {b : SM} {it : Wk} {xs : List D} (I : Nat → Tau → LH → Prop) (hit : it = .st xs ∨ ∃ n, it = .dy n ∧ ∀ i τ lh, I i τ lh → lstAt lh n = some xs)
    (H : ∀ (i : Nat) (d : D), xs[i]? = some d → ∀ τ lh, I i τ lh → ∃ bs, g lh d = some bs ∧ ∃ τ' lh', b (setAll τ (bs.map (·.1)) (bs.map (·.2))) lh = .nx τ' lh' ∧ I (i + 1) τ' lh') {τ : Tau} {lh : LH} (h0 : I 0 τ lh) :
    ∃ τ' lh', sForW 0 g b it τ lh = .nx τ' lh' ∧ I xs.length τ' lh' := by
  rcases hit with rfl | ⟨n, rfl, hI⟩
  · have := forL_seq I H xs.length 0 (by omega) τ lh h0
    rw [List.drop_zero] at this
    exact this
  · have e : Wk.len lh (.dy n) = xs.length := by
      show (lstAt lh n).elim 0 List.length = _
      rw [hI 0 τ lh h0]
      rfl
    show ∃ τ' lh', sForN (.dy n) g b (0 + Wk.len lh (.dy n) + 1) 0 τ lh = .nx τ' lh' ∧ I xs.length τ' lh'
    rw [e]
    exact forN_seq I hI H _ 0 (by omega) (by omega) τ lh h0
/-! ### the heap of a search -/
section
variable {β : Type}
def stK : KEnc stE := KEnc.tri (KEnc.tup (KEnc.tup KEnc.int)) KEnc.nat KEnc.int
abbrev ksD (F : Fd β) : List D := F.map fun x => stE.d x.1
abbrev vsD (gv : β → D) (F : Fd β) : List D := F.map fun x => gv x.2
abbrev hB (gv : β → D) (ext : LH) (st : Fd β × List Stand) : LH := .dic (ksD st.1) (vsD gv st.1) :: (ext ++ [.lst (st.2.map stD)])
abbrev bT (x0 x1 x2 x3 x4 : Option D) (ext : LH) (x6 x7 x8 : Option D) : Tau := [x0, x1, x2, x3, x4, some (.loc (ext.length + 1)), x6, x7, x8]
def lk (F : Fd β) (t : Stand) : Option β := @List.lookup Stand β instBEqOfDecidableEq t F
theorem look_st (gv : β → D) (F : Fd β) (t : Stand) : dLook (stK.key t) (ksD F) (vsD gv F) = (lk F t).map gv := stK.look (by decide) gv t F
theorem lookup_gen {α γ : Type} [DecidableEq α] : ∀ (F : List (α × γ)) (t : α), (F.lookup t).isSome = decide (t ∈ F.map (·.1))
  | [], t => by simp
  | (b, u) :: F, t => by
    have ih := lookup_gen F t
    rw [List.lookup_cons]
    by_cases c : t = b
    · subst c
      simp
    · have : (t == b) = false := by simpa using c
      rw [this]
      simp only [ih, List.map_cons, List.mem_cons, c, false_or]
theorem lookup_mem' (F : Fd β) (t : Stand) : (lk F t).isSome = decide (t ∈ F.map (·.1)) := (lookup_gen F t).trans (decide_eq_decide.mpr Iff.rfl)
theorem key_st (t : Stand) : toKey 8 (stD t) = some (stK.key t) := stK.at8 (by decide) t
theorem stD_tup (t : Stand) : ∃ xs, stD t = .tup xs := ⟨_, rfl⟩
theorem in_dic (gv : β → D) (F : Fd β) (rest : LH) (t : Stand) : inG (.dic (ksD F) (vsD gv F) :: rest) (stD t) (.loc 0) = .v (.bl (decide (t ∈ F.map (·.1)))) := by
  have h1 := look_st gv F t
  have h2 := lookup_mem' F t
  have h3 : ((lk F t).map gv).isSome = decide (t ∈ F.map (·.1)) := by rw [Option.isSome_map, h2]
  show (match toKey 8 (stD t) with
    | some k => Ro.v (.bl (dLook k (ksD F) (vsD gv F)).isSome)
    | none => .no) = _
  rw [key_st]
  simp only [h1, h3]
theorem notIn_dic (gv : β → D) (F : Fd β) (rest : LH) (t : Stand) : notInG (.dic (ksD F) (vsD gv F) :: rest) (stD t) (.loc 0) = .v (.bl (!decide (t ∈ F.map (·.1)))) := by
  unfold notInG
  rw [in_dic]
  rfl
theorem put_dic (gv : β → D) (F : Fd β) (rest : LH) (t : Stand) (v : β) (hn : t ∉ F.map (·.1)) (hl : F.length ≤ 30000) : setG (.dic (ksD F) (vsD gv F) :: rest) (.loc 0) (stD t) (gv v) = some (.dic (ksD (F ++ [(t, v)])) (vsD gv (F ++ [(t, v)])) :: rest) := by
  have h1 := stK.put (by decide) gv t v F
  have h2 := putK_new t v F hn
  have h3 : (ksD F).length < sizeLine := Nat.lt_of_le_of_lt (by rw [List.length_map]; exact hl) (show 30000 < sizeLine by decide)
  show (match toKey 8 (stD t) with
    | some k => if (ksD F).length < sizeLine then some ((LO.dic (ksD F) (vsD gv F) :: rest).set 0 (.dic (dPut k (stD t) (gv v) (ksD F) (vsD gv F)).1 (dPut k (stD t) (gv v) (ksD F) (vsD gv F)).2)) else none
    | none => none) = _
  rw [key_st]
  simp only [h3, if_true]
  have h1' : dPut (stK.key t) (stD t) (gv v) (ksD F) (vsD gv F) = ((putK t v F).map (fun x => stE.d x.1), (putK t v F).map fun x => gv x.2) := h1
  rw [h1', h2]
  rfl
theorem more_at (gv : β → D) (ext : LH) (st : Fd β × List Stand) : lstAt (hB gv ext st) (ext.length + 1) = some (st.2.map stD) := by
  have : (hB gv ext st)[ext.length + 1]? = some (.lst (st.2.map stD)) := by
    show (ext ++ [LO.lst (st.2.map stD)])[ext.length]? = _
    rw [List.getElem?_append_right (Nat.le_refl _), Nat.sub_self]
    rfl
  unfold lstAt
  rw [this]
theorem more_loc (gv : β → D) (ext : LH) (st : Fd β × List Stand) : locL (hB gv ext st) (.loc (ext.length + 1)) = some (ext.length + 1, st.2.map stD) := by
  show (match lstAt (hB gv ext st) (ext.length + 1) with
    | some xs => some (ext.length + 1, xs)
    | none => none) = _
  rw [more_at]
theorem more_set (gv : β → D) (ext : LH) (st : Fd β × List Stand) (t : Stand) : (hB gv ext st).set (ext.length + 1) (.lst (st.2.map stD ++ [stD t])) = hB gv ext (st.1, st.2 ++ [t]) := by
  show LO.dic _ _ :: ((ext ++ [LO.lst (st.2.map stD)]).set ext.length _) = _
  rw [setLast]
  simp
/-- more.append(other) -/
theorem more_app (gv : β → D) (ext : LH) (st : Fd β × List Stand) (t : Stand) (hl : st.2.length ≤ 30000) {m : EM} {τ : Tau} {mo : EM} (hm : m τ (hB gv ext st) = .ok (stD t) (hB gv ext st)) (hmo : mo τ (hB gv ext st) = .ok (.loc (ext.length + 1)) (hB gv ext st)) :
    sDrop (eMt apG mo m) τ (hB gv ext st) = .nx τ (hB gv ext (st.1, st.2 ++ [t])) := by
  have ha : (st.2.map stD).length < sizeLine := Nat.lt_of_le_of_lt (by rw [List.length_map]; exact hl) (show 30000 < sizeLine by decide)
  have a2 : ∀ lh, apG lh (st.2.map stD) (stD t) = some (st.2.map stD ++ [stD t], .non) := fun lh => by
    unfold apG
    rw [if_pos ha]
  rw [z_drop, z_mt, hmo, z_ok, more_loc]
  simp only [hm, z_ok, more_at, a2]
  rw [more_set]
  rfl
/-- the edges of a stand, one by one -/
theorem edges_loop {ls : List (Int × List Int)} {o : List Int} (Y : Yard ls) (gv : β → D) (val : Fd β → Stand → Wd → β) (b0 : SM) (x0 x1 x2 x3 x4 : Option D) (ext : LH) {s : Stand} (hs : On ls o s) (hf : Few s)
    (hE : ∀ (st : Fd β × List Stand) (p : Wd × Stand), Bf ls o st.1 st.2 → s ∈ st.1.map (·.1) → st.2.length ≤ 30000 → b0 (bT x0 x1 x2 x3 x4 ext (some (stD s)) (some (.str p.1.s)) (some (stD p.2))) (hB gv ext st) = .nx (bT x0 x1 x2 x3 x4 ext (some (stD s)) (some (.str p.1.s)) (some (stD p.2))) (hB gv ext (edge val s st p))) :
    ∀ (ps : List (Wd × Stand)) (st : Fd β × List Stand) (x7 x8 : Option D), (∀ p ∈ ps, p ∈ stps ls o s) → Bf ls o st.1 st.2 → s ∈ st.1.map (·.1) → st.2.length + ps.length ≤ 30000 →
      ∃ y7 y8, sForL (gbTup (gbCons (gbName 7) (gbCons (gbName 8) gbNil))) b0 (ps.map stepD) (bT x0 x1 x2 x3 x4 ext (some (stD s)) x7 x8) (hB gv ext st) = .nx (bT x0 x1 x2 x3 x4 ext (some (stD s)) y7 y8) (hB gv ext (ps.foldl (edge val s) st))
  | [], st, x7, x8, _, _, _, _ => ⟨x7, x8, rfl⟩
  | p :: ps, st, x7, x8, hp, B, hm, hl => by
    simp only [List.length_cons] at hl
    have e := hE st p B hm (by omega)
    have hle : (edge val s st p).2.length ≤ st.2.length + 1 := by
      unfold edge
      split <;> simp
    obtain ⟨e1, q1, q2⟩ := edge_ext val s st p
    obtain ⟨y7, y8, e2⟩ := edges_loop Y gv val b0 x0 x1 x2 x3 x4 ext hs hf hE ps (edge val s st p) (some (.str p.1.s)) (some (stD p.2)) (fun q hq => hp q (List.mem_cons_of_mem _ hq)) (B.edge Y val hs hf (hp p List.mem_cons_self)) (by rw [q1, List.map_append]; exact List.mem_append.mpr (.inl hm)) (by omega)
    refine ⟨y7, y8, ?_⟩
    rw [List.map_cons, forL_cons]
    show (match b0 (bT x0 x1 x2 x3 x4 ext (some (stD s)) (some (.str p.1.s)) (some (stD p.2))) (hB gv ext st) with
      | .nx τ lh => _ | .bk τ lh => _ | .rt d lh => _ | .exc c τ lh => _ | .stuck => _) = _
    rw [e]
    exact e2
theorem stps_len (ls : List (Int × List Int)) (o : List Int) (s : Stand) : (stps ls o s).length ≤ 5 := List.length_filterMap_le _ _
theorem bf_more {ls : List (Int × List Int)} {o : List Int} {F : Fd β} {line : List Stand} (Y : Yard ls) (val : Fd β → Stand → Wd → β) (B : Bf ls o F line) (i : Nat) : Bf ls o ((line.take i).foldl (visit ls o val) (F, [])).1 ((line.take i).foldl (visit ls o val) (F, [])).2 ∧ (∀ s ∈ line, s ∈ ((line.take i).foldl (visit ls o val) (F, [])).1.map (·.1)) ∧ ((line.take i).foldl (visit ls o val) (F, [])).2.length ≤ 26364 := by
  have b1 := Bf.level Y val (line.take i) (F, []) (fun s hs => B.sub s (List.mem_of_mem_take hs)) ⟨B.nd, B.on, fun _ z => by simp at z⟩
  obtain ⟨e, h1, h2⟩ := visits_ext ls o val (line.take i) (F, [])
  refine ⟨b1, fun s hs => ?_, ?_⟩
  · rw [h1, List.map_append]
    exact List.mem_append.mpr (.inl (B.sub s hs))
  · rw [h2]
    have hl := b1.len Y
    rw [h1, List.length_append] at hl
    simp only [List.nil_append, List.length_map]
    omega
/-- one level: for stand in line: for deed, other in steps: .. -/
theorem level_loop {ls : List (Int × List Int)} {o : List Int} (Y : Yard ls) (gv : β → D) (val : Fd β → Stand → Wd → β) (b0 : SM) (fs : FM) (x2 x3 x4 : Option D) (ext : LH)
    (hS : ∀ s, On ls o s → ∀ lh, callP fs [linesD ls, .lst (o.map .int), stD s] lh = .ok (.lst ((stps ls o s).map stepD)) lh)
    (hE : ∀ s, On ls o s → ∀ (st : Fd β × List Stand) (p : Wd × Stand), Bf ls o st.1 st.2 → s ∈ st.1.map (·.1) → st.2.length ≤ 30000 → b0 (bT (some (linesD ls)) (some (.lst (o.map .int))) x2 x3 x4 ext (some (stD s)) (some (.str p.1.s)) (some (stD p.2))) (hB gv ext st) = .nx (bT (some (linesD ls)) (some (.lst (o.map .int))) x2 x3 x4 ext (some (stD s)) (some (.str p.1.s)) (some (stD p.2))) (hB gv ext (edge val s st p)))
    {F : Fd β} {line : List Stand} (B : Bf ls o F line) {it : Wk} (hit : it = .st (line.map stD) ∨ ∃ n, it = .dy (n + 1) ∧ ext[n]? = some (.lst (line.map stD))) (x6 x7 x8 : Option D) :
    ∃ y6 y7 y8, sForW 0 (gbName 6) (sFor 0 (iOf (eCallP 3 fs (aCons (eVar 0) (aCons (eVar 1) (aCons (eVar 6) aNil))))) (gbTup (gbCons (gbName 7) (gbCons (gbName 8) gbNil))) b0) it (bT (some (linesD ls)) (some (.lst (o.map .int))) x2 x3 x4 ext x6 x7 x8) (hB gv ext (F, [])) =
      .nx (bT (some (linesD ls)) (some (.lst (o.map .int))) x2 x3 x4 ext y6 y7 y8) (hB gv ext (level ls o val F line)) := by
  have H := forW_seq (g := gbName 6) (b := sFor 0 (iOf (eCallP 3 fs (aCons (eVar 0) (aCons (eVar 1) (aCons (eVar 6) aNil))))) (gbTup (gbCons (gbName 7) (gbCons (gbName 8) gbNil))) b0) (it := it) (xs := line.map stD)
    (fun i τ lh => lh = hB gv ext ((line.take i).foldl (visit ls o val) (F, [])) ∧ ∃ y6 y7 y8, τ = bT (some (linesD ls)) (some (.lst (o.map .int))) x2 x3 x4 ext y6 y7 y8) (by
      rcases hit with rfl | ⟨n, rfl, hn⟩
      · exact .inl rfl
      · refine .inr ⟨n + 1, rfl, fun i τ lh hi => ?_⟩
        rw [hi.1]
        have hlt : n < ext.length := (List.getElem?_eq_some_iff.mp hn).1
        have : (hB gv ext ((line.take i).foldl (visit ls o val) (F, [])))[n + 1]? = some (.lst (line.map stD)) := by
          show (ext ++ _)[n]? = _
          rw [List.getElem?_append_left hlt, hn]
        unfold lstAt
        rw [this]) (fun i d hd τ lh hi => by
      obtain ⟨rfl, y6, y7, y8, rfl⟩ := hi
      rw [List.getElem?_map] at hd
      cases hq : line[i]? with
      | none => rw [hq] at hd; cases hd
      | some s =>
        rw [hq] at hd
        have hd' : stD s = d := Option.some.inj hd
        subst hd'
        obtain ⟨b1, b2, b3⟩ := bf_more Y val B i
        have hsm : s ∈ line := List.mem_of_getElem? hq
        have hk := b2 s hsm
        obtain ⟨x, hx, hxs⟩ := List.mem_map.mp hk
        have hon := b1.on x hx
        rw [hxs] at hon
        have h5 := stps_len ls o s
        obtain ⟨z7, z8, e⟩ := edges_loop Y gv val b0 (some (linesD ls)) (some (.lst (o.map .int))) x2 x3 x4 ext hon.1 hon.2 (hE s hon.1) (stps ls o s) ((line.take i).foldl (visit ls o val) (F, [])) y7 y8 (fun p hp => hp) b1 hk (by omega)
        refine ⟨[(6, stD s)], rfl, bT (some (linesD ls)) (some (.lst (o.map .int))) x2 x3 x4 ext (some (stD s)) z7 z8, _, ?_, rfl, _, _, _, rfl⟩
        show (sFor 0 (iOf (eCallP 3 fs (aCons (eVar 0) (aCons (eVar 1) (aCons (eVar 6) aNil))))) (gbTup (gbCons (gbName 7) (gbCons (gbName 8) gbNil))) b0) (bT (some (linesD ls)) (some (.lst (o.map .int))) x2 x3 x4 ext (some (stD s)) y7 y8) _ = _
        have hi2 : (iOf (eCallP 3 fs (aCons (eVar 0) (aCons (eVar 1) (aCons (eVar 6) aNil))))) (bT (some (linesD ls)) (some (.lst (o.map .int))) x2 x3 x4 ext (some (stD s)) y7 y8) (hB gv ext ((line.take i).foldl (visit ls o val) (F, []))) = .ok (.st ((stps ls o s).map stepD)) (hB gv ext ((line.take i).foldl (visit ls o val) (F, []))) := by
          have hc := hS s hon.1 (hB gv ext ((line.take i).foldl (visit ls o val) (F, [])))
          simp [hc, asS, asL]
        rw [z_for, hi2, z_toS]
        have e2 : (line.take (i + 1)).foldl (visit ls o val) (F, []) = (stps ls o s).foldl (edge val s) ((line.take i).foldl (visit ls o val) (F, [])) := by
          rw [List.take_add_one, hq, Option.toList_some, List.foldl_append]
          rfl
        rw [e2]
        exact e) (τ := bT (some (linesD ls)) (some (.lst (o.map .int))) x2 x3 x4 ext x6 x7 x8) (lh := hB gv ext (F, [])) ⟨by simp, x6, x7, x8, rfl⟩
  obtain ⟨τ', lh', e, rfl, y6, y7, y8, rfl⟩ := H
  refine ⟨y6, y7, y8, ?_⟩
  rw [e, List.length_map, List.take_length]
  rfl
end
end Lw

namespace Lw
open PySem Tb
/-! ### the law's heights -/
abbrev vI (m : Nat) : Fd Int → Stand → Wd → Int := fun _ _ _ => (m : Int)
theorem vals_ext {β : Type} {F : Fd β} {line : List Stand} {ls : List (Int × List Int)} {o : List Int} (val : Fd β → Stand → Wd → β) : F.length ≤ (level ls o val F line).1.length ∧ ((level ls o val F line).2 ≠ [] → F.length + 1 ≤ (level ls o val F line).1.length) := by
  obtain ⟨e, h1, h2⟩ := visits_ext ls o val line (F, [])
  have h1' : (level ls o val F line).1 = F ++ e := h1
  have h2' : (level ls o val F line).2 = e.map (·.1) := by
    have : (level ls o val F line).2 = [] ++ e.map (·.1) := h2
    simpa using this
  rw [h1', List.length_append]
  refine ⟨by omega, fun hn => ?_⟩
  rw [h2'] at hn
  cases e with
  | nil => simp at hn
  | cons a e => simp only [List.length_cons]; omega
/-- enough turns -/
def Enough {β : Type} (k : Nat) (F : Fd β) (line : List Stand) : Prop := 1 ≤ k ∧ (line ≠ [] → 26366 ≤ k + F.length)
theorem enough_step {β : Type} {ls : List (Int × List Int)} {o : List Int} {k : Nat} {F : Fd β} {line : List Stand} (Y : Yard ls) (B : Bf ls o F line) (val : Fd β → Stand → Wd → β) (h : Enough (k + 1) F line) (hn : line ≠ []) : Enough k (level ls o val F line).1 (level ls o val F line).2 := by
  have h1 := h.2 hn
  have h2 := B.len Y
  have h3 := vals_ext (F := F) (line := line) (ls := ls) (o := o) val
  refine ⟨by omega, fun q => ?_⟩
  have := h3.2 q
  omega
def LineAt (ext : LH) (ld : D) (line : List Stand) : Prop := ld = .lst (line.map stD) ∨ ∃ n, ld = .loc (n + 1) ∧ ext[n]? = some (.lst (line.map stD))
theorem lineNe {ext : LH} {ld : D} {line : List Stand} (h : LineAt ext ld line) (o : LO) : neG (o :: ext) ld (.lst []) = .v (.bl (!decide (line = []))) := by
  rcases h with rfl | ⟨n, rfl, hn⟩
  · exact stE.lst.ne line [] (o :: ext)
  · exact stE.neLoc (lh := o :: ext) (n := n + 1) (l := line) hn []
theorem lineIt {ext : LH} {ld : D} {line : List Stand} (h : LineAt ext ld line) (o : LO) (more : LH) {m : EM} {τ : Tau} (hm : m τ (o :: (ext ++ more)) = .ok ld (o :: (ext ++ more))) : ∃ it, iOf m τ (o :: (ext ++ more)) = .ok it (o :: (ext ++ more)) ∧ (it = .st (line.map stD) ∨ ∃ n, it = .dy (n + 1) ∧ ext[n]? = some (.lst (line.map stD))) := by
  rcases h with rfl | ⟨n, rfl, hn⟩
  · refine ⟨.st (line.map stD), ?_, .inl rfl⟩
    rw [z_iof, hm]
    rfl
  · refine ⟨.dy (n + 1), ?_, .inr ⟨n, rfl, hn⟩⟩
    have hlt : n < ext.length := (List.getElem?_eq_some_iff.mp hn).1
    have : lstAt (o :: (ext ++ more)) (n + 1) = some (line.map stD) := by
      have e : (o :: (ext ++ more))[n + 1]? = some (.lst (line.map stD)) := by
        show (ext ++ more)[n]? = _
        rw [List.getElem?_append_left hlt, hn]
      unfold lstAt
      rw [e]
    rw [z_iof, hm, z_ok]
    simp only [this, Option.isSome_some, if_true]
theorem eqOut (lh : LH) (w : Wd) : eqG lh (.str w.s) (.str "out") = .v (.bl (decide (w = .out))) := wdE.eq w .out lh
theorem lheights_edge {ls : List (Int × List Int)} {o : List Int} (Y : Yard ls) (m : Nat) (x3 : Option D) (ext : LH) (s : Stand) (hs : On ls o s) (st : Fd Int × List Stand) (p : Wd × Stand) (B : Bf ls o st.1 st.2) (hl : st.2.length ≤ 30000) :
    b0__law_heights (bT (some (linesD ls)) (some (.lst (o.map .int))) (some (.loc 0)) x3 (some (.int (m : Nat))) ext (some (stD s)) (some (.str p.1.s)) (some (stD p.2))) (hB .int ext st) = .nx (bT (some (linesD ls)) (some (.lst (o.map .int))) (some (.loc 0)) x3 (some (.int (m : Nat))) ext (some (stD s)) (some (.str p.1.s)) (some (stD p.2))) (hB .int ext (edge (vI m) s st p)) := by
  have hc := llast_call s hs.good.eng (hs.flat Y) (hB .int ext st)
  have hi := notIn_dic .int st.1 (ext ++ [.lst (st.2.map stD)]) p.2
  have F30 : st.1.length ≤ 30000 := Nat.le_trans (B.len Y) (by decide)
  unfold b0__law_heights
  rw [z_sif]
  by_cases h1 : p.2 ∈ st.1.map (·.1)
  · have e : edge (vI m) s st p = st := by
      unfold edge
      rw [if_pos (.inl h1)]
    have tt : (tAndD (t2 notInG (eVar 8) (eVar 2)) (tNotD (tAndD (t2 eqG (eVar 7) (eC (.str "out"))) (tOf (eCallP 1 f__law_last (aCons (eVar 6) aNil)))))) (bT (some (linesD ls)) (some (.lst (o.map .int))) (some (.loc 0)) x3 (some (.int (m : Nat))) ext (some (stD s)) (some (.str p.1.s)) (some (stD p.2))) (hB .int ext st) = .ok false (hB .int ext st) := by
      rw [decide_eq_true h1] at hi
      simp [bT, hi]
    rw [tt, e]
    rfl
  · rw [decide_eq_false h1] at hi
    by_cases h2 : p.1 = .out ∧ lastB s = true
    · have e : edge (vI m) s st p = st := by
        unfold edge
        rw [if_pos (.inr h2)]
      have tt : (tAndD (t2 notInG (eVar 8) (eVar 2)) (tNotD (tAndD (t2 eqG (eVar 7) (eC (.str "out"))) (tOf (eCallP 1 f__law_last (aCons (eVar 6) aNil)))))) (bT (some (linesD ls)) (some (.lst (o.map .int))) (some (.loc 0)) x3 (some (.int (m : Nat))) ext (some (stD s)) (some (.str p.1.s)) (some (stD p.2))) (hB .int ext st) = .ok false (hB .int ext st) := by
        rw [h2.2] at hc
        simp [bT, hi, eqOut, h2.1, hc, truD]
      rw [tt, e]
      rfl
    · have e : edge (vI m) s st p = (st.1 ++ [(p.2, (m : Int))], st.2 ++ [p.2]) := by
        unfold edge
        rw [if_neg (fun z => z.elim h1 h2)]
      have tt : (tAndD (t2 notInG (eVar 8) (eVar 2)) (tNotD (tAndD (t2 eqG (eVar 7) (eC (.str "out"))) (tOf (eCallP 1 f__law_last (aCons (eVar 6) aNil)))))) (bT (some (linesD ls)) (some (.lst (o.map .int))) (some (.loc 0)) x3 (some (.int (m : Nat))) ext (some (stD s)) (some (.str p.1.s)) (some (stD p.2))) (hB .int ext st) = .ok true (hB .int ext st) := by
        by_cases hw : p.1 = .out
        · have hb : lastB s = false := by
            cases q : lastB s with
            | true => exact absurd ⟨hw, q⟩ h2
            | false => rfl
          rw [hb] at hc
          have q : eqG (hB .int ext st) (.str p.1.s) (.str "out") = .v (.bl true) := by rw [eqOut, decide_eq_true hw]
          simp [bT, hi, q, hc, truD]
        · have q : eqG (hB .int ext st) (.str p.1.s) (.str "out") = .v (.bl false) := by rw [eqOut, decide_eq_false hw]
          simp [bT, hi, q]
      have pt : (sPut (eVar 4) (eVar 2) (eVar 8)) (bT (some (linesD ls)) (some (.lst (o.map .int))) (some (.loc 0)) x3 (some (.int (m : Nat))) ext (some (stD s)) (some (.str p.1.s)) (some (stD p.2))) (hB .int ext st) = .nx (bT (some (linesD ls)) (some (.lst (o.map .int))) (some (.loc 0)) x3 (some (.int (m : Nat))) ext (some (stD s)) (some (.str p.1.s)) (some (stD p.2))) (hB .int ext (st.1 ++ [(p.2, (m : Int))], st.2)) := by
        have q := put_dic .int st.1 (ext ++ [.lst (st.2.map stD)]) p.2 (m : Int) h1 F30
        simp [bT, q]
      rw [tt, z_toS, if_pos rfl, z_seq, pt, z_sq1, e]
      exact more_app .int ext (st.1 ++ [(p.2, (m : Int))], st.2) p.2 hl rfl rfl
abbrev hT (ls : List (Int × List Int)) (o : List Int) (x3 x4 x5 x6 x7 x8 : Option D) : Tau := [some (linesD ls), some (.lst (o.map .int)), some (.loc 0), x3, x4, x5, x6, x7, x8]
def lhBody : SM := (sSeq (sPar [5, 4] (aCons (eLst true aNil) (aCons (e2 false addG (eVar 4) (eC (.int 1))) aNil)))
  (sSeq (sFor 0 (iOf (eVar 3)) (gbName 6) b1__law_heights) (sSet 3 (eVar 5))))
theorem lheights_body {ls : List (Int × List Int)} {o : List Int} (Y : Yard ls) (m : Nat) {F : Fd Int} {line : List Stand} (B : Bf ls o F line) {ext : LH} {ld : D} (hld : LineAt ext ld line) (x5 x6 x7 x8 : Option D) :
    ∃ y5 y6 y7 y8 ld' ext', LineAt ext' ld' (level ls o (vI (m + 1)) F line).2 ∧ lhBody (hT ls o (some ld) (some (.int (m : Nat))) x5 x6 x7 x8) (.dic (ksD F) (vsD .int F) :: ext) = .nx (hT ls o (some ld') (some (.int ((m + 1 : Nat) : Int))) y5 y6 y7 y8) (.dic (ksD (level ls o (vI (m + 1)) F line).1) (vsD .int (level ls o (vI (m + 1)) F line).1) :: ext') := by
  have s1 : (sPar [5, 4] (aCons (eLst true aNil) (aCons (e2 false addG (eVar 4) (eC (.int 1))) aNil))) (hT ls o (some ld) (some (.int (m : Nat))) x5 x6 x7 x8) (.dic (ksD F) (vsD .int F) :: ext) = .nx (bT (some (linesD ls)) (some (.lst (o.map .int))) (some (.loc 0)) (some ld) (some (.int ((m + 1 : Nat) : Int))) ext x6 x7 x8) (hB .int ext (F, [])) := by
    have hs : (0 : Nat) ≤ sizeLine := by decide
    have hm : ((m + 1 : Nat) : Int) = (m : Int) + 1 := by omega
    simp [hT, bT, hm]
  obtain ⟨it, hi1, hi2⟩ := lineIt hld (.dic (ksD F) (vsD .int F)) [.lst ([].map stD)] (m := eVar 3) (τ := bT (some (linesD ls)) (some (.lst (o.map .int))) (some (.loc 0)) (some ld) (some (.int ((m + 1 : Nat) : Int))) ext x6 x7 x8) rfl
  obtain ⟨y6, y7, y8, hl⟩ := level_loop Y .int (vI (m + 1)) b0__law_heights f__law_steps (some (.loc 0)) (some ld) (some (.int ((m + 1 : Nat) : Int))) ext (fun s hs lh => lsteps_call Y hs lh) (fun s hs st p B _ hl => lheights_edge Y (m + 1) (some ld) ext s hs st p B hl) B hi2 x6 x7 x8
  refine ⟨some (.loc (ext.length + 1)), y6, y7, y8, .loc (ext.length + 1), ext ++ [.lst ((level ls o (vI (m + 1)) F line).2.map stD)], .inr ⟨ext.length, rfl, by rw [List.getElem?_append_right (Nat.le_refl _), Nat.sub_self]; rfl⟩, ?_⟩
  unfold lhBody
  rw [z_seq, s1, z_sq1, z_seq, z_for]
  have hi1' : (iOf (eVar 3)) (bT (some (linesD ls)) (some (.lst (o.map .int))) (some (.loc 0)) (some ld) (some (.int ((m + 1 : Nat) : Int))) ext x6 x7 x8) (hB .int ext (F, [])) = .ok it (hB .int ext (F, [])) := hi1
  rw [hi1', z_toS]
  have hl' : sForW 0 (gbName 6) b1__law_heights it (bT (some (linesD ls)) (some (.lst (o.map .int))) (some (.loc 0)) (some ld) (some (.int ((m + 1 : Nat) : Int))) ext x6 x7 x8) (hB .int ext (F, [])) = .nx (bT (some (linesD ls)) (some (.lst (o.map .int))) (some (.loc 0)) (some ld) (some (.int ((m + 1 : Nat) : Int))) ext y6 y7 y8) (hB .int ext (level ls o (vI (m + 1)) F line)) := hl
  rw [hl', z_sq1]
  rfl
theorem bf_bfs {β : Type} {ls : List (Int × List Int)} {o : List Int} (Y : Yard ls) (val : Nat → Fd β → Stand → Wd → β) : ∀ (k m : Nat) (F : Fd β) (line : List Stand), Bf ls o F line → Bf ls o (bfs ls o val k m F line) []
  | 0, m, F, line, B => ⟨B.nd, B.on, fun _ z => by simp at z⟩
  | k + 1, m, F, line, B => by
    unfold bfs
    split
    · exact ⟨B.nd, B.on, fun _ z => by simp at z⟩
    · exact bf_bfs Y val k (m + 1) _ _ (B.level0 Y (val (m + 1)))
theorem lheights_while {ls : List (Int × List Int)} {o : List Int} (Y : Yard ls) : ∀ (k m : Nat) (F : Fd Int) (line : List Stand) (ext : LH) (ld : D) (x5 x6 x7 x8 : Option D), Bf ls o F line → Enough k F line → LineAt ext ld line →
    ∃ y3 y4 y5 y6 y7 y8 ext', sWhile k (t2 neG (eVar 3) (eLst false aNil)) lhBody (hT ls o (some ld) (some (.int (m : Nat))) x5 x6 x7 x8) (.dic (ksD F) (vsD .int F) :: ext) = .nx (hT ls o y3 y4 y5 y6 y7 y8) (.dic (ksD (bfs ls o vI k m F line)) (vsD .int (bfs ls o vI k m F line)) :: ext')
  | 0, m, F, line, ext, ld, x5, x6, x7, x8, B, h, hld => absurd h.1 (by omega)
  | k + 1, m, F, line, ext, ld, x5, x6, x7, x8, B, h, hld => by
    have hs : (0 : Nat) ≤ sizeLine := by decide
    have hne := lineNe hld (.dic (ksD F) (vsD .int F))
    have tt : (t2 neG (eVar 3) (eLst false aNil)) (hT ls o (some ld) (some (.int (m : Nat))) x5 x6 x7 x8) (.dic (ksD F) (vsD .int F) :: ext) = .ok (!decide (line = [])) (.dic (ksD F) (vsD .int F) :: ext) := by
      simp only [z_t2, z_lst, z_an]
      show ((Res.ok ld (LO.dic (ksD F) (vsD .int F) :: ext)).bind _) = _
      simp only [z_ok]
      show (match neG (.dic (ksD F) (vsD .int F) :: ext) ld (.lst []) with
        | .v (.bl b) => Res.ok b (LO.dic (ksD F) (vsD .int F) :: ext)
        | _ => .stuck) = _
      rw [hne]
    unfold sWhile bfs
    rw [tt, z_toS]
    by_cases hl : line = []
    · rw [if_pos hl]
      simp only [hl, decide_true, Bool.not_true, Bool.false_eq_true, if_false]
      exact ⟨_, _, _, _, _, _, ext, rfl⟩
    · rw [if_neg hl]
      simp only [hl, decide_false, Bool.not_false, if_true]
      obtain ⟨y5, y6, y7, y8, ld', ext', h1, h2⟩ := lheights_body Y m B hld x5 x6 x7 x8
      rw [h2]
      exact lheights_while Y k (m + 1) _ _ ext' ld' y5 y6 y7 y8 (B.level0 Y (vI (m + 1))) (enough_step Y B (vI (m + 1)) h hl) h1
def lhF (ls : List (Int × List Int)) (o : List Int) : Fd Int := bfs ls o vI 100000 0 [(fst ls, 0)] [fst ls]
abbrev hsD (F : Fd Int) : D := .dic (ksD F) (vsD .int F)
theorem frz_key (lh : LH) (s : Stand) : frz lh 11 (stD s) = some (stD s) := frz_st lh 7 s
structure Ord (ls : List (Int × List Int)) (o : List Int) : Prop where
  on : On ls o (fst ls)
  few : Few (fst ls)
theorem bf_fst {β : Type} {ls : List (Int × List Int)} {o : List Int} (O : Ord ls o) (v : β) : Bf ls o [(fst ls, v)] [fst ls] := ⟨by simp, fun x hx => by rw [List.mem_singleton.mp hx]; exact ⟨O.on, O.few⟩, fun s hs => by rw [List.mem_singleton.mp hs]; simp⟩
theorem lheights_call {ls : List (Int × List Int)} {o : List Int} (Y : Yard ls) (O : Ord ls o) (lh : LH) : callP f__law_heights [linesD ls, .lst (o.map .int)] lh = .ok (hsD (lhF ls o)) lh := by
  have hf := fun lh => lfirst_call Y.hi lh
  have run : ∃ ext', f__law_heights [linesD ls, .lst (o.map .int)] [] = .ok (.loc 0) (.dic (ksD (lhF ls o)) (vsD .int (lhF ls o)) :: ext') := by
    obtain ⟨y3, y4, y5, y6, y7, y8, ext', e⟩ := lheights_while Y 100000 0 [(fst ls, (0 : Int))] [fst ls] [] (.lst [stD (fst ls)]) none none none none (bf_fst O 0) ⟨by omega, fun _ => by simp⟩ (.inl rfl)
    refine ⟨ext', ?_⟩
    have hs : (1 : Nat) ≤ sizeLine := by decide
    have s1 : (sPar [2, 3, 4] (aCons eDict (aCons (eLst false (aCons (eCallP 1 f__law_first (aCons (eVar 0) aNil)) aNil)) (aCons (eC (.int 0)) aNil)))) [some (linesD ls), some (.lst (o.map .int)), none, none, none, none, none, none, none] [] = .nx (hT ls o (some (.lst [stD (fst ls)])) (some (.int 0)) none none none none) [.dic [] []] := by
      have hd : ∀ τ, eDict τ [] = .ok (.loc 0) [.dic [] []] := fun τ => rfl
      simp [hT, hf, hs, hd]
    have s2 : (sPut (eC (.int 0)) (eVar 2) (e2 false ixG (eVar 3) (eC (.int 0)))) (hT ls o (some (.lst [stD (fst ls)])) (some (.int 0)) none none none none) [.dic [] []] = .nx (hT ls o (some (.lst [stD (fst ls)])) (some (.int 0)) none none none none) [.dic (ksD [(fst ls, (0 : Int))]) (vsD .int [(fst ls, (0 : Int))])] := by
      have q := put_dic .int ([] : Fd Int) [] (fst ls) 0 (by simp) (by simp)
      have i0 : ∀ lh, ixG lh (.lst [stD (fst ls)]) (.int 0) = .v (stD (fst ls)) := fun lh => z_ixL (i := 0) rfl
      have q' : setG [.dic [] []] (.loc 0) (stD (fst ls)) (.int 0) = some [.dic (ksD [(fst ls, (0 : Int))]) (vsD .int [(fst ls, (0 : Int))])] := q
      simp [hT, i0, q']
    unfold f__law_heights fnM
    show (match (sSeq (sPar [2, 3, 4] _) (sSeq (sPut _ _ _) (sSeq (sWhile 100000 (t2 neG (eVar 3) (eLst false aNil)) lhBody) (sRet (eVar 2))))) [some (linesD ls), some (.lst (o.map .int)), none, none, none, none, none, none, none] [] with
      | .nx _ lh => Res.ok D.non lh | .rt d lh => .ok d lh | .exc c _ lh => .exc c lh | .bk _ _ => .stuck | .stuck => .stuck) = _
    rw [z_seq, s1, z_sq1, z_seq, s2, z_sq1, z_seq]
    have e' : sWhile 100000 (t2 neG (eVar 3) (eLst false aNil)) lhBody (hT ls o (some (.lst [stD (fst ls)])) (some (.int 0)) none none none none) [.dic (ksD [(fst ls, (0 : Int))]) (vsD .int [(fst ls, (0 : Int))])] = _ := e
    rw [e', z_sq1]
    rfl
  obtain ⟨ext', run⟩ := run
  refine callP_of2 (args2 (frz_lines _ 8 ls) (frz_oD _ 10 o)) run ?_
  show (match mapO (frz (.dic (ksD (lhF ls o)) (vsD .int (lhF ls o)) :: ext') 11) (vsD .int (lhF ls o)) with
    | some us => some (D.dic (ksD (lhF ls o)) us)
    | none => none) = _
  rw [mapO_all fun x hx => by
    obtain ⟨y, _, rfl⟩ := List.mem_map.mp hx
    rfl]
end Lw

namespace Lw
open PySem Tb
/-! ### heights go down step by step -/
structure Hi (ls : List (Int × List Int)) (o : List Int) (m : Nat) (line : List Stand) (st : Fd Int × List Stand) : Prop where
  pos : ∀ x ∈ st.1, 0 ≤ x.2 ∧ x.2 < st.1.length
  cnt : m + 1 ≤ st.1.length
  at_ : ∀ s ∈ st.2, (s, ((m + 1 : Nat) : Int)) ∈ st.1
  old : ∀ s ∈ line, (s, (m : Int)) ∈ st.1
  pre : ∀ x ∈ st.1, (x.2 = 0 ∧ x.1 = fst ls) ∨ (1 ≤ x.2 ∧ ∃ s w, (s, x.2 - 1) ∈ st.1 ∧ (w, x.1) ∈ stps ls o s)
theorem Hi.edge {ls : List (Int × List Int)} {o : List Int} {m : Nat} {line : List Stand} {st : Fd Int × List Stand} (h : Hi ls o m line st) {s : Stand} (hs : s ∈ line) {p : Wd × Stand} (hp : p ∈ stps ls o s) : Hi ls o m line (Lw.edge (vI (m + 1)) s st p) := by
  unfold Lw.edge
  split
  · exact h
  · refine ⟨fun x hx => ?_, ?_, fun t ht => ?_, fun t ht => List.mem_append.mpr (.inl (h.old t ht)), fun x hx => ?_⟩
    · simp only [List.length_append, List.length_singleton]
      rcases List.mem_append.mp hx with hx | hx
      · have := h.pos x hx
        omega
      · rw [List.mem_singleton.mp hx]
        have := h.cnt
        show 0 ≤ ((m + 1 : Nat) : Int) ∧ ((m + 1 : Nat) : Int) < _
        omega
    · simp only [List.length_append, List.length_singleton]
      have := h.cnt
      omega
    · rcases List.mem_append.mp ht with ht | ht
      · exact List.mem_append.mpr (.inl (h.at_ t ht))
      · rw [List.mem_singleton.mp ht]
        exact List.mem_append.mpr (.inr (by simp))
    · rcases List.mem_append.mp hx with hx | hx
      · rcases h.pre x hx with q | ⟨q, s', w, h1, h2⟩
        · exact .inl q
        · exact .inr ⟨q, s', w, List.mem_append.mpr (.inl h1), h2⟩
      · rw [List.mem_singleton.mp hx]
        refine .inr ⟨by show 1 ≤ ((m + 1 : Nat) : Int); omega, s, p.1, List.mem_append.mpr (.inl ?_), hp⟩
        have := h.old s hs
        rw [show (((m + 1 : Nat) : Int) - 1) = (m : Int) by omega]
        exact this
theorem Hi.fold {ls : List (Int × List Int)} {o : List Int} {m : Nat} {line : List Stand} {s : Stand} (hs : s ∈ line) : ∀ (ps : List (Wd × Stand)) (st : Fd Int × List Stand), (∀ p ∈ ps, p ∈ stps ls o s) → Hi ls o m line st → Hi ls o m line (ps.foldl (Lw.edge (vI (m + 1)) s) st)
  | [], st, _, h => h
  | p :: ps, st, hp, h => Hi.fold hs ps _ (fun q hq => hp q (List.mem_cons_of_mem _ hq)) (h.edge hs (hp p List.mem_cons_self))
theorem Hi.level {ls : List (Int × List Int)} {o : List Int} {m : Nat} {line : List Stand} : ∀ (l : List Stand) (st : Fd Int × List Stand), (∀ s ∈ l, s ∈ line) → Hi ls o m line st → Hi ls o m line (l.foldl (visit ls o (vI (m + 1))) st)
  | [], st, _, h => h
  | s :: l, st, hl, h => Hi.level l _ (fun q hq => hl q (List.mem_cons_of_mem _ hq)) (Hi.fold (hl s List.mem_cons_self) (stps ls o s) st (fun p hp => hp) h)
structure Hg (ls : List (Int × List Int)) (o : List Int) (m : Nat) (F : Fd Int) (line : List Stand) : Prop where
  pos : ∀ x ∈ F, 0 ≤ x.2 ∧ x.2 < F.length
  cnt : line ≠ [] → m + 1 ≤ F.length
  at_ : ∀ s ∈ line, (s, (m : Int)) ∈ F
  pre : ∀ x ∈ F, (x.2 = 0 ∧ x.1 = fst ls) ∨ (1 ≤ x.2 ∧ ∃ s w, (s, x.2 - 1) ∈ F ∧ (w, x.1) ∈ stps ls o s)
theorem Hg.bfs {ls : List (Int × List Int)} {o : List Int} : ∀ (k m : Nat) (F : Fd Int) (line : List Stand), Hg ls o m F line → ∃ m', Hg ls o m' (Lw.bfs ls o vI k m F line) []
  | 0, m, F, line, h => ⟨m, h.pos, fun z => absurd rfl z, fun _ z => by simp at z, h.pre⟩
  | k + 1, m, F, line, h => by
    unfold Lw.bfs
    split
    · exact ⟨m, h.pos, fun z => absurd rfl z, fun _ z => by simp at z, h.pre⟩
    · rename_i hn
      have q : Hi ls o m line (Lw.level ls o (vI (m + 1)) F line) := Hi.level line (F, []) (fun s hs => hs) ⟨h.pos, h.cnt hn, fun _ z => by simp at z, h.at_, h.pre⟩
      refine Hg.bfs k (m + 1) _ _ ⟨q.pos, fun hl => ?_, q.at_, q.pre⟩
      obtain ⟨s, hs⟩ := List.exists_mem_of_ne_nil _ hl
      have := (q.pos _ (q.at_ s hs)).2
      simp only at this
      omega
theorem lhF_hg {ls : List (Int × List Int)} {o : List Int} : ∃ m, Hg ls o m (bfs ls o vI 100000 0 [(fst ls, 0)] [fst ls]) [] := Hg.bfs 100000 0 _ _ ⟨fun x hx => by
  rw [List.mem_singleton.mp hx]
  simp, fun _ => by simp, fun s hs => by rw [List.mem_singleton.mp hs]; simp, fun x hx => by
  rw [List.mem_singleton.mp hx]
  exact .inl ⟨rfl, rfl⟩⟩
section
variable {β : Type}
theorem lk_gen {α γ : Type} [DecidableEq α] : ∀ {F : List (α × γ)} {s : α} {v : γ}, F.lookup s = some v → (s, v) ∈ F
  | [], s, v, h => by cases h
  | (b, u) :: F, s, v, h => by
    rw [List.lookup_cons] at h
    by_cases c : s = b
    · subst c
      simp at h
      rw [h]
      exact List.mem_cons_self
    · have : (s == b) = false := by simpa using c
      rw [this] at h
      exact List.mem_cons_of_mem _ (lk_gen (F := F) h)
theorem gen_lk {α γ : Type} [DecidableEq α] : ∀ {F : List (α × γ)} {s : α} {v : γ}, (F.map (·.1)).Nodup → (s, v) ∈ F → F.lookup s = some v
  | [], s, v, _, h => by simp at h
  | (b, u) :: F, s, v, hn, h => by
    have hn2 := List.nodup_cons.mp (show (b :: F.map (·.1)).Nodup from hn)
    rw [List.lookup_cons]
    by_cases c : s = b
    · subst c
      rcases List.mem_cons.mp h with h | h
      · cases h
        simp
      · exact absurd (List.mem_map.mpr ⟨_, h, rfl⟩) hn2.1
    · have : (s == b) = false := by simpa using c
      rw [this]
      rcases List.mem_cons.mp h with h | h
      · cases h
        exact absurd rfl c
      · exact gen_lk (F := F) hn2.2 h
theorem lk_mem {F : Fd β} {s : Stand} {v : β} (h : lk F s = some v) : (s, v) ∈ F := lk_gen h
theorem mem_lk {F : Fd β} {s : Stand} {v : β} (hn : (F.map (·.1)).Nodup) (h : (s, v) ∈ F) : lk F s = some v := gen_lk hn h
theorem ix_dic (gv : β → D) (F : Fd β) (lh : LH) (s : Stand) {v : β} (h : lk F s = some v) : ixG lh (.dic (ksD F) (vsD gv F)) (stD s) = .v (gv v) := by
  have h1 := look_st gv F s
  rw [h] at h1
  show (match toKey 8 (stD s) with
    | some k => (match dLook k (ksD F) (vsD gv F) with
      | some d => Ro.v d
      | none => .no)
    | none => .no) = _
  rw [key_st]
  simp only [h1, Option.map_some]
/-- a dict's keys in order -/
def keysS (F : Fd β) : List Stand := isort stE.le (F.map (·.1))
theorem insS_mem {α : Type} (le : α → α → Bool) (a b : α) : ∀ l : List α, b ∈ insS le a l ↔ b = a ∨ b ∈ l
  | [] => by simp [insS]
  | c :: l => by
    have ih := insS_mem le a b l
    unfold insS
    split
    · simp
    · simp only [List.mem_cons, ih]
      constructor
      · rintro (h | h | h)
        · exact .inr (.inl h)
        · exact .inl h
        · exact .inr (.inr h)
      · rintro (h | h | h)
        · exact .inr (.inl h)
        · exact .inl h
        · exact .inr (.inr h)
theorem isort_mem {α : Type} (le : α → α → Bool) (b : α) : ∀ l : List α, b ∈ isort le l ↔ b ∈ l
  | [] => Iff.rfl
  | a :: l => by
    unfold isort
    rw [insS_mem, isort_mem le b l, List.mem_cons]
theorem keysS_mem (F : Fd β) (s : Stand) : s ∈ keysS F ↔ s ∈ F.map (·.1) := isort_mem _ _ _
theorem sort_dic (gv : β → D) (F : Fd β) (lh : LH) (hl : F.length ≤ 30000) : sortA lh [.dic (ksD F) (vsD gv F)] = .l ((keysS F).map stD) := by
  have h := stE.sort (F.map (·.1)) lh (.inl fun _ => rfl) (Nat.le_trans (by rw [List.length_map]; exact hl) (show 30000 ≤ sizeLine by decide))
  rw [List.map_map] at h
  exact h
end
end Lw

namespace Lw
open PySem Tb
/-- what is asked of the heights -/
structure Hts (ls : List (Int × List Int)) (o : List Int) (F : Fd Int) : Prop where
  bf : Bf ls o F []
  len : F.length ≤ 26364
  pos : ∀ x ∈ F, 0 ≤ x.2 ∧ x.2 < F.length
  pre : ∀ x ∈ F, (x.2 = 0 ∧ x.1 = fst ls) ∨ (1 ≤ x.2 ∧ ∃ s w, (s, x.2 - 1) ∈ F ∧ (w, x.1) ∈ stps ls o s)
theorem hts_ok {ls : List (Int × List Int)} {o : List Int} (Y : Yard ls) (O : Ord ls o) : Hts ls o (bfs ls o vI 100000 0 [(fst ls, 0)] [fst ls]) := by
  obtain ⟨m, h⟩ := lhF_hg (ls := ls) (o := o)
  have b := bf_bfs Y vI 100000 0 _ _ (bf_fst O (0 : Int))
  exact ⟨b, b.len Y, h.pos, h.pre⟩
theorem addLoc {lh : LH} {j : Nat} {xs ys : List D} (h : lstAt lh j = some ys) (hl : xs.length + ys.length ≤ 60000) : addG lh (.lst xs) (.loc j) = .l (xs ++ ys) := by
  have hz : xs.length + ys.length ≤ sizeLine := Nat.le_trans hl (by decide)
  show (match asM lh (.lst xs), asM lh (.loc j) with
    | some xs, some ys => if xs.length + ys.length ≤ sizeLine then Ro.l (xs ++ ys) else .no
    | _, _ => .no) = _
  have h' : asM lh (.loc j) = some ys := h
  rw [h']
  simp only [show asM lh (.lst xs) = some xs from rfl, hz, if_true]
theorem lstLast (lh : LH) (xs : List D) : lstAt (lh ++ [.lst xs]) lh.length = some xs := by
  unfold lstAt
  rw [List.getElem?_append_right (Nat.le_refl _), Nat.sub_self]
  rfl
def pairE : Enc (Int × Stand) := Enc.pair Enc.int stE
abbrev wT (ls : List (Int × List Int)) (o : List Int) (F : Fd Int) (x3 x4 x5 x6 x7 x8 x9 : Option D) : Tau := [some (linesD ls), some (.lst (o.map .int)), some (hsD F), x3, x4, x5, x6, x7, x8, x9]
def toC (ls : List (Int × List Int)) (o : List Int) (c s : Stand) : List Wd := (stps ls o s).filterMap fun p => if p.2 = c then some p.1 else none
def GoodW (ls : List (Int × List Int)) (o : List Int) (F : Fd Int) (c : Stand) (h : Int) (s : Stand) : Prop := (s, h - 1) ∈ F ∧ toC ls o c s ≠ []
theorem way_step {ls : List (Int × List Int)} {o : List Int} {F : Fd Int} (Y : Yard ls) (T : Hts ls o F) {c : Stand} {h : Int} (hc : (c, h) ∈ F) {lh : LH} {j : Nat} {ws : List Wd} (hj : lstAt lh j = some (wsD ws)) (hws : ws.length ≤ 50000) {s : Stand} (hs : s ∈ F.map (·.1)) (x3 x7 x8 x9 : Option D) :
    (GoodW ls o F c h s ∧ ∃ y7 w, b0__law_way (wT ls o F x3 (some (stD c)) (some (.loc j)) (some (stD s)) x7 x8 x9) lh = .bk (wT ls o F x3 (some (stD s)) (some (.loc lh.length)) (some (stD s)) y7 x8 x9) (lh ++ [.lst (wsD (w :: ws))])) ∨
      (¬ GoodW ls o F c h s ∧ ∃ y7, b0__law_way (wT ls o F x3 (some (stD c)) (some (.loc j)) (some (stD s)) x7 x8 x9) lh = .nx (wT ls o F x3 (some (stD c)) (some (.loc j)) (some (stD s)) y7 x8 x9) lh) := by
  obtain ⟨x, hx, rfl⟩ := List.mem_map.mp hs
  have hon := (T.bf.on x hx).1
  have i1 := ix_dic .int F lh x.1 (mem_lk T.bf.nd (show (x.1, x.2) ∈ F from hx))
  have i2 := ix_dic .int F lh c (mem_lk T.bf.nd hc)
  have hst := lsteps_call Y hon lh
  have s0 : (0 : Nat) ≤ sizeLine := by decide
  have s1 : (1 : Nat) ≤ sizeLine := by decide
  have q1 : (sSet 7 (eLst false aNil)) (wT ls o F x3 (some (stD c)) (some (.loc j)) (some (stD x.1)) x7 x8 x9) lh = .nx (wT ls o F x3 (some (stD c)) (some (.loc j)) (some (stD x.1)) (some (.lst [])) x8 x9) lh := by
    simp [wT]
  have t1 : (t2 eqG (e2 false ixG (eVar 2) (eVar 6)) (e2 false subG (e2 false ixG (eVar 2) (eVar 4)) (eC (.int 1)))) (wT ls o F x3 (some (stD c)) (some (.loc j)) (some (stD x.1)) (some (.lst [])) x8 x9) lh = .ok (decide (x.2 = h - 1)) lh := by
    simp [wT, i1, i2, eqInt, beqI]
  have lc : lcL (gbTup (gbCons (gbName 8) (gbCons (gbName 9) gbNil))) (t2 eqG (eVar 9) (eVar 4)) (eVar 8) [8, 9] (wT ls o F x3 (some (stD c)) (some (.loc j)) (some (stD x.1)) (some (.lst [])) none none) ((stps ls o x.1).map stepD) lh = some (wsD (toC ls o c x.1), lh) := by
    refine lcL_map (f := stepD) (f2 := fun w : Wd => D.str w.s) (fun p => if p.2 = c then some p.1 else none) fun p hp => ⟨[(8, .str p.1.s), (9, stD p.2)], rfl, rfl, ?_⟩
    have e : (t2 eqG (eVar 9) (eVar 4)) (setAll (wT ls o F x3 (some (stD c)) (some (.loc j)) (some (stD x.1)) (some (.lst [])) none none) ([(8, D.str p.1.s), (9, stD p.2)].map (·.1)) ([(8, D.str p.1.s), (9, stD p.2)].map (·.2))) lh = .ok (decide (p.2 = c)) lh := by
      simp [wT, eqSt]
    by_cases hpc : p.2 = c
    · refine .inr ⟨p.1, by rw [if_pos hpc], ?_, rfl⟩
      rw [e, decide_eq_true hpc]
    · refine .inl ⟨by rw [if_neg hpc], ?_⟩
      rw [e, decide_eq_false hpc]
  have hlen : (toC ls o c x.1).length ≤ 5 := Nat.le_trans (List.length_filterMap_le _ _) (stps_len ls o x.1)
  have q2 : (sSet 7 (eLc false (iOf (eCallP 3 f__law_steps (aCons (eVar 0) (aCons (eVar 1) (aCons (eVar 6) aNil))))) (gbTup (gbCons (gbName 8) (gbCons (gbName 9) gbNil))) (t2 eqG (eVar 9) (eVar 4)) (eVar 8) [8, 9])) (wT ls o F x3 (some (stD c)) (some (.loc j)) (some (stD x.1)) (some (.lst [])) x8 x9) lh = .nx (wT ls o F x3 (some (stD c)) (some (.loc j)) (some (stD x.1)) (some (.lst (wsD (toC ls o c x.1)))) x8 x9) lh := by
    have hi : (iOf (eCallP 3 f__law_steps (aCons (eVar 0) (aCons (eVar 1) (aCons (eVar 6) aNil))))) (wT ls o F x3 (some (stD c)) (some (.loc j)) (some (stD x.1)) (some (.lst [])) x8 x9) lh = .ok (.st ((stps ls o x.1).map stepD)) lh := by
      simp [wT, hst, asS, asL]
    have hz : (wsD (toC ls o c x.1)).length ≤ sizeLine := Nat.le_trans (by simp [wsD]; exact hlen) (show 5 ≤ sizeLine by decide)
    have ev : eLc false (iOf (eCallP 3 f__law_steps (aCons (eVar 0) (aCons (eVar 1) (aCons (eVar 6) aNil))))) (gbTup (gbCons (gbName 8) (gbCons (gbName 9) gbNil))) (t2 eqG (eVar 9) (eVar 4)) (eVar 8) [8, 9] (wT ls o F x3 (some (stD c)) (some (.loc j)) (some (stD x.1)) (some (.lst [])) x8 x9) lh = .ok (.lst (wsD (toC ls o c x.1))) lh := by
      unfold eLc
      rw [hi, z_ok]
      show (match lcL (gbTup (gbCons (gbName 8) (gbCons (gbName 9) gbNil))) (t2 eqG (eVar 9) (eVar 4)) (eVar 8) [8, 9] (wT ls o F x3 (some (stD c)) (some (.loc j)) (some (stD x.1)) (some (.lst [])) none none) ((stps ls o x.1).map stepD) lh with
        | some (ys, lh) => fin false ys lh
        | none => .stuck) = _
      rw [lc]
      simp only [fin, hz, if_true]
      rfl
    rw [z_set, ev]
    rfl
  have ne : ∀ l : List Wd, neG lh (.lst (wsD l)) (.lst []) = .v (.bl (!decide (l = []))) := fun l => wdE.lst.ne l [] lh
  by_cases hh : x.2 = h - 1
  · have hmem : (x.1, h - 1) ∈ F := by rw [← hh]; exact hx
    cases hM : toC ls o c x.1 with
    | nil =>
      right
      refine ⟨fun g => g.2 hM, some (.lst []), ?_⟩
      rw [hM] at q2
      have q2' : (sIf (t2 eqG (e2 false ixG (eVar 2) (eVar 6)) (e2 false subG (e2 false ixG (eVar 2) (eVar 4)) (eC (.int 1)))) (sSet 7 (eLc false (iOf (eCallP 3 f__law_steps (aCons (eVar 0) (aCons (eVar 1) (aCons (eVar 6) aNil))))) (gbTup (gbCons (gbName 8) (gbCons (gbName 9) gbNil))) (t2 eqG (eVar 9) (eVar 4)) (eVar 8) [8, 9])) sNil) (wT ls o F x3 (some (stD c)) (some (.loc j)) (some (stD x.1)) (some (.lst [])) x8 x9) lh = .nx (wT ls o F x3 (some (stD c)) (some (.loc j)) (some (stD x.1)) (some (.lst [])) x8 x9) lh := by
        rw [z_sif, t1, decide_eq_true hh, z_toS, if_pos rfl, q2]
        rfl
      have n0 := ne []
      unfold b0__law_way
      rw [z_seq, q1, z_sq1, z_seq, q2', z_sq1, z_sif]
      have n0' : neG lh (.lst []) (.lst []) = .v (.bl false) := n0
      simp [wT, n0']
    | cons w r =>
      left
      refine ⟨⟨hmem, by rw [hM]; simp⟩, some (.lst (wsD (w :: r))), w, ?_⟩
      rw [hM] at q2
      have q2' : (sIf (t2 eqG (e2 false ixG (eVar 2) (eVar 6)) (e2 false subG (e2 false ixG (eVar 2) (eVar 4)) (eC (.int 1)))) (sSet 7 (eLc false (iOf (eCallP 3 f__law_steps (aCons (eVar 0) (aCons (eVar 1) (aCons (eVar 6) aNil))))) (gbTup (gbCons (gbName 8) (gbCons (gbName 9) gbNil))) (t2 eqG (eVar 9) (eVar 4)) (eVar 8) [8, 9])) sNil) (wT ls o F x3 (some (stD c)) (some (.loc j)) (some (stD x.1)) (some (.lst [])) x8 x9) lh = .nx (wT ls o F x3 (some (stD c)) (some (.loc j)) (some (stD x.1)) (some (.lst (wsD (w :: r)))) x8 x9) lh := by
        rw [z_sif, t1, decide_eq_true hh, z_toS, if_pos rfl, q2]
      have n0 := ne (w :: r)
      have hix : ∀ lh, ixG lh (.lst (wsD (w :: r))) (.int 0) = .v (.str w.s) := fun lh => z_ixL (i := 0) rfl
      have ha : addG lh (.lst [.str w.s]) (.loc j) = .l (.str w.s :: wsD ws) := addLoc (xs := [.str w.s]) hj (by simp [wsD]; omega)
      have tt : (t2 neG (eVar 7) (eLst false aNil)) (wT ls o F x3 (some (stD c)) (some (.loc j)) (some (stD x.1)) (some (.lst (wsD (w :: r)))) x8 x9) lh = .ok true lh := by
        simp [wT, n0]
      have st : (sAsg (gbTup (gbCons (gbName 4) (gbCons (gbName 5) gbNil))) (eTup (aCons (eVar 6) (aCons (e2 true addG (eLst false (aCons (e2 false ixG (eVar 7) (eC (.int 0))) aNil)) (eVar 5)) aNil)))) (wT ls o F x3 (some (stD c)) (some (.loc j)) (some (stD x.1)) (some (.lst (wsD (w :: r)))) x8 x9) lh = .nx (wT ls o F x3 (some (stD x.1)) (some (.loc lh.length)) (some (stD x.1)) (some (.lst (wsD (w :: r)))) x8 x9) (lh ++ [.lst (.str w.s :: wsD ws)]) := by
        have s2 : (2 : Nat) ≤ sizeLine := by decide
        simp [wT, hix, s1, s2, ha]
      unfold b0__law_way
      rw [z_seq, q1, z_sq1, z_seq, q2', z_sq1, z_sif, tt, z_toS, if_pos rfl, z_seq, st, z_sq1]
      rfl
  · right
    refine ⟨fun g => hh ?_, some (.lst []), ?_⟩
    · have e1' := mem_lk T.bf.nd g.1
      have e2' := mem_lk T.bf.nd (show (x.1, x.2) ∈ F from hx)
      rw [e1'] at e2'
      exact (Option.some.inj e2').symm
    · have q2' : (sIf (t2 eqG (e2 false ixG (eVar 2) (eVar 6)) (e2 false subG (e2 false ixG (eVar 2) (eVar 4)) (eC (.int 1)))) (sSet 7 (eLc false (iOf (eCallP 3 f__law_steps (aCons (eVar 0) (aCons (eVar 1) (aCons (eVar 6) aNil))))) (gbTup (gbCons (gbName 8) (gbCons (gbName 9) gbNil))) (t2 eqG (eVar 9) (eVar 4)) (eVar 8) [8, 9])) sNil) (wT ls o F x3 (some (stD c)) (some (.loc j)) (some (stD x.1)) (some (.lst [])) x8 x9) lh = .nx (wT ls o F x3 (some (stD c)) (some (.loc j)) (some (stD x.1)) (some (.lst [])) x8 x9) lh := by
        rw [z_sif, t1, decide_eq_false hh, z_toS]
        rfl
      have n0' : neG lh (.lst []) (.lst []) = .v (.bl false) := ne []
      unfold b0__law_way
      rw [z_seq, q1, z_sq1, z_seq, q2', z_sq1, z_sif]
      simp [wT, n0']
theorem way_for {ls : List (Int × List Int)} {o : List Int} {F : Fd Int} (Y : Yard ls) (T : Hts ls o F) {c : Stand} {h : Int} (hc : (c, h) ∈ F) {lh : LH} {j : Nat} {ws : List Wd} (hj : lstAt lh j = some (wsD ws)) (hws : ws.length ≤ 50000) (x3 x8 x9 : Option D) : ∀ (K : List Stand) (x6 x7 : Option D), (∀ s ∈ K, s ∈ F.map (·.1)) → (∃ s ∈ K, GoodW ls o F c h s) →
    ∃ s w y6 y7, (s, h - 1) ∈ F ∧ sForL (gbName 6) b0__law_way (K.map stD) (wT ls o F x3 (some (stD c)) (some (.loc j)) x6 x7 x8 x9) lh = .nx (wT ls o F x3 (some (stD s)) (some (.loc lh.length)) y6 y7 x8 x9) (lh ++ [.lst (wsD (w :: ws))])
  | [], x6, x7, _, h => by
    obtain ⟨s, hs, _⟩ := h
    simp at hs
  | s :: K, x6, x7, hK, hg => by
    rw [List.map_cons]
    rcases way_step Y T hc hj hws (hK s List.mem_cons_self) x3 x7 x8 x9 with ⟨g, y7, w, e⟩ | ⟨g, y7, e⟩
    · refine ⟨s, w, some (stD s), y7, g.1, ?_⟩
      rw [forL_cons]
      show (match b0__law_way (wT ls o F x3 (some (stD c)) (some (.loc j)) (some (stD s)) x7 x8 x9) lh with
        | .nx τ lh => _ | .bk τ lh => _ | .rt d lh => _ | .exc c τ lh => _ | .stuck => _) = _
      rw [e]
    · obtain ⟨s', w, y6, y7', h1, h2⟩ := way_for Y T hc hj hws x3 x8 x9 K (some (stD s)) y7 (fun q hq => hK q (List.mem_cons_of_mem _ hq)) (by
        obtain ⟨q, hq, hq2⟩ := hg
        rcases List.mem_cons.mp hq with rfl | hq
        · exact absurd hq2 g
        · exact ⟨q, hq, hq2⟩)
      refine ⟨s', w, y6, y7', h1, ?_⟩
      rw [forL_cons]
      show (match b0__law_way (wT ls o F x3 (some (stD c)) (some (.loc j)) (some (stD s)) x7 x8 x9) lh with
        | .nx τ lh => _ | .bk τ lh => _ | .rt d lh => _ | .exc c τ lh => _ | .stuck => _) = _
      rw [e]
      exact h2
theorem way_while {ls : List (Int × List Int)} {o : List Int} {F : Fd Int} (Y : Yard ls) (T : Hts ls o F) (x3 : Option D) : ∀ (k : Nat) (c : Stand) (h : Nat) (lh : LH) (j : Nat) (ws : List Wd) (x6 x7 x8 x9 : Option D), (c, (h : Int)) ∈ F → h < k → lstAt lh j = some (wsD ws) → ws.length + h ≤ 50000 →
    ∃ y4 j' ws' y6 y7 y8 y9 lh', lstAt lh' j' = some (wsD ws') ∧ ws'.length ≤ ws.length + h ∧ sWhile k (t2 neG (eVar 4) (eCallP 1 f__law_first (aCons (eVar 0) aNil))) (sFor 0 (iOf (eCall false sortA (aCons (eVar 2) aNil))) (gbName 6) b0__law_way) (wT ls o F x3 (some (stD c)) (some (.loc j)) x6 x7 x8 x9) lh = .nx (wT ls o F x3 y4 (some (.loc j')) y6 y7 y8 y9) lh'
  | 0, c, h, lh, j, ws, x6, x7, x8, x9, hc, hk, hj, hl => absurd hk (by omega)
  | k + 1, c, h, lh, j, ws, x6, x7, x8, x9, hc, hk, hj, hl => by
    have hf := lfirst_call Y.hi lh
    have tt : (t2 neG (eVar 4) (eCallP 1 f__law_first (aCons (eVar 0) aNil))) (wT ls o F x3 (some (stD c)) (some (.loc j)) x6 x7 x8 x9) lh = .ok (!decide (c = fst ls)) lh := by
      simp [wT, hf, neSt]
    unfold sWhile
    rw [tt, z_toS]
    by_cases hcf : c = fst ls
    · simp only [hcf, decide_true, Bool.not_true, Bool.false_eq_true, if_false]
      exact ⟨_, j, ws, x6, x7, x8, x9, lh, hj, by omega, rfl⟩
    · simp only [hcf, decide_false, Bool.not_false, if_true]
      obtain ⟨h1, s, w, h2, h3⟩ := (T.pre _ hc).resolve_left fun z => hcf z.2
      simp only at h1 h2 h3
      have gw : GoodW ls o F c (h : Int) s := ⟨h2, fun z => by
        have : w ∈ toC ls o c s := List.mem_filterMap.mpr ⟨(w, c), h3, by simp⟩
        rw [z] at this
        simp at this⟩
      obtain ⟨s', w', y6, y7, e1', e2'⟩ := way_for Y T hc hj (by omega) x3 x8 x9 (keysS F) x6 x7 (fun q hq => (keysS_mem F q).mp hq) ⟨s, (keysS_mem F s).mpr (List.mem_map.mpr ⟨_, h2, rfl⟩), gw⟩
      have hit : (iOf (eCall false sortA (aCons (eVar 2) aNil))) (wT ls o F x3 (some (stD c)) (some (.loc j)) x6 x7 x8 x9) lh = .ok (.st ((keysS F).map stD)) lh := by
        have hs := sort_dic .int F lh (Nat.le_trans T.len (by decide))
        simp [wT, hs, asS, asL]
      have hb : (sFor 0 (iOf (eCall false sortA (aCons (eVar 2) aNil))) (gbName 6) b0__law_way) (wT ls o F x3 (some (stD c)) (some (.loc j)) x6 x7 x8 x9) lh = .nx (wT ls o F x3 (some (stD s')) (some (.loc lh.length)) y6 y7 x8 x9) (lh ++ [.lst (wsD (w' :: ws))]) := by
        rw [z_for, hit, z_toS]
        exact e2'
      rw [hb]
      simp only
      have hh : ((h - 1 : Nat) : Int) = (h : Int) - 1 := by omega
      obtain ⟨y4, j', ws', z6, z7, z8, z9, lh', r1, r2, r3⟩ := way_while Y T x3 k s' (h - 1) (lh ++ [.lst (wsD (w' :: ws))]) lh.length (w' :: ws) y6 y7 x8 x9 (by rw [hh]; exact e1') (by omega) (lstLast lh _) (by simp only [List.length_cons]; omega)
      exact ⟨y4, j', ws', z6, z7, z8, z9, lh', r1, by simp only [List.length_cons] at r2; omega, r3⟩
/-- nothing, or a way -/
def wayD : Option (List Wd) → D
  | none => .non
  | some ws => .lst (wsD ws)
theorem way_call {ls : List (Int × List Int)} {o : List Int} {F : Fd Int} (Y : Yard ls) (T : Hts ls o F) : ∃ r : Option (List Wd), (∀ ws, r = some ws → ws.length ≤ 30000) ∧ ∀ lh, callP f__law_way [linesD ls, .lst (o.map .int), hsD F] lh = .ok (wayD r) lh := by
  have hfz : ∀ lh : LH, frz lh fuel (hsD F) = some (hsD F) := fun lh => by
    show (match mapO (frz lh 11) (vsD .int F) with
      | some us => some (D.dic (ksD F) us)
      | none => none) = _
    rw [mapO_all fun x hx => by
      obtain ⟨y, _, rfl⟩ := List.mem_map.mp hx
      rfl]
  have hs := fun lh => sort_dic .int F lh (Nat.le_trans T.len (by decide))
  let pk : Stand → Option (Int × Stand) := fun s => if lastB s = true then some ((lk F s).getD 0, s) else none
  have hlk : ((keysS F).filterMap pk).length ≤ 30000 := by
    refine Nat.le_trans (List.length_filterMap_le _ _) ?_
    unfold keysS
    rw [isort_len, List.length_map]
    exact Nat.le_trans T.len (by decide)
  have lc : ∀ lh, lcL (gbName 6) (tOf (eCallP 1 f__law_last (aCons (eVar 6) aNil))) (eTup (aCons (e2 false ixG (eVar 2) (eVar 6)) (aCons (eVar 6) aNil))) [6] (wT ls o F none none none none none none none) ((keysS F).map stD) lh = some (((keysS F).filterMap pk).map pairE.d, lh) := fun lh => by
    refine lcL_map (f := stD) (f2 := pairE.d) pk fun s hs => ⟨[(6, stD s)], rfl, rfl, ?_⟩
    obtain ⟨x, hx, rfl⟩ := List.mem_map.mp ((keysS_mem F s).mp hs)
    have hon := (T.bf.on x hx).1
    have hl := llast_call x.1 hon.good.eng (hon.flat Y) lh
    have hv := mem_lk T.bf.nd (show (x.1, x.2) ∈ F from hx)
    have i1 := ix_dic .int F lh x.1 hv
    have et : (tOf (eCallP 1 f__law_last (aCons (eVar 6) aNil))) (setAll (wT ls o F none none none none none none none) ([(6, stD x.1)].map (·.1)) ([(6, stD x.1)].map (·.2))) lh = .ok (lastB x.1) lh := by
      simp [wT, hl, truD]
    cases q : lastB x.1 with
    | false =>
      refine .inl ⟨by simp only [pk, q]; rfl, ?_⟩
      rw [et, q]
    | true =>
      refine .inr ⟨(x.2, x.1), by simp only [pk, q, hv]; rfl, ?_, ?_⟩
      · rw [et, q]
      · simp [wT, i1]
        rfl
  let L := isort pairE.le ((keysS F).filterMap pk)
  have hL : ∀ y ∈ L, (y.2, y.1) ∈ F := fun y hy => by
    obtain ⟨s, h1, h2⟩ := List.mem_filterMap.mp ((isort_mem _ _ _).mp hy)
    obtain ⟨x, hx, rfl⟩ := List.mem_map.mp ((keysS_mem F s).mp h1)
    have hv := mem_lk T.bf.nd (show (x.1, x.2) ∈ F from hx)
    simp only [pk] at h2
    split at h2
    · rw [hv] at h2
      cases h2
      exact hx
    · cases h2
  have w1 : (sSet 3 (eCall false sortA (aCons (eLc false (iOf (eCall false sortA (aCons (eVar 2) aNil))) (gbName 6) (tOf (eCallP 1 f__law_last (aCons (eVar 6) aNil))) (eTup (aCons (e2 false ixG (eVar 2) (eVar 6)) (aCons (eVar 6) aNil))) [6]) aNil))) (wT ls o F none none none none none none none) [] = .nx (wT ls o F (some (.lst (L.map pairE.d))) none none none none none none) [] := by
    have hit : (iOf (eCall false sortA (aCons (eVar 2) aNil))) (wT ls o F none none none none none none none) [] = .ok (.st ((keysS F).map stD)) [] := by
      have hs' := hs []
      simp [wT, hs', asS, asL]
    have hz : (((keysS F).filterMap pk).map pairE.d).length ≤ sizeLine := Nat.le_trans (by rw [List.length_map]; exact hlk) (show 30000 ≤ sizeLine by decide)
    have ev : eLc false (iOf (eCall false sortA (aCons (eVar 2) aNil))) (gbName 6) (tOf (eCallP 1 f__law_last (aCons (eVar 6) aNil))) (eTup (aCons (e2 false ixG (eVar 2) (eVar 6)) (aCons (eVar 6) aNil))) [6] (wT ls o F none none none none none none none) [] = .ok (.lst (((keysS F).filterMap pk).map pairE.d)) [] := by
      unfold eLc
      rw [hit, z_ok]
      show (match lcL (gbName 6) (tOf (eCallP 1 f__law_last (aCons (eVar 6) aNil))) (eTup (aCons (e2 false ixG (eVar 2) (eVar 6)) (aCons (eVar 6) aNil))) [6] (wT ls o F none none none none none none none) ((keysS F).map stD) [] with
        | some (ys, lh) => fin false ys lh
        | none => .stuck) = _
      rw [lc]
      simp only [fin, hz, if_true]
      rfl
    have so : sortA [] [.lst (((keysS F).filterMap pk).map pairE.d)] = .l (L.map pairE.d) := pairE.sort _ [] (.inl fun _ => rfl) (Nat.le_trans hlk (by decide))
    rw [z_set, z_call, z_ac, ev]
    simp only [z_ok, z_an, so]
    rfl
  cases hLq : L with
  | nil =>
    refine ⟨none, fun ws z => (nomatch z), fun lh => ?_⟩
    refine callP_of (args3 (frz_lines _ 8 ls) (frz_oD _ 10 o) (hfz [])) (lh' := []) ?_ rfl
    have eq : eqG [] (.lst (L.map pairE.d)) (.lst []) = .v (.bl true) := by
      rw [hLq]
      rfl
    unfold f__law_way fnM
    show (match (sSeq _ (sSeq (sIf (t2 eqG (eVar 3) (eLst false aNil)) (sRet (eC .non)) sNil) _)) (wT ls o F none none none none none none none) [] with
      | .nx _ lh => Res.ok D.non lh | .rt d lh => .ok d lh | .exc c _ lh => .exc c lh | .bk _ _ => .stuck | .stuck => .stuck) = _
    rw [z_seq, w1, z_sq1, z_seq]
    have s0 : (0 : Nat) ≤ sizeLine := by decide
    have w2 : (sIf (t2 eqG (eVar 3) (eLst false aNil)) (sRet (eC .non)) sNil) (wT ls o F (some (.lst (L.map pairE.d))) none none none none none none) [] = .rt .non [] := by
      rw [z_sif]
      simp [wT, eq]
    rw [w2]
    rfl
  | cons y r =>
    have hy := hL y (by rw [hLq]; exact List.mem_cons_self)
    have hp := T.pos _ hy
    obtain ⟨h, hh⟩ := Int.eq_ofNat_of_zero_le hp.1
    simp only at hh hp
    have hlen := T.len
    have hh2 : h < 26364 := by omega
    have hy' : (y.2, (h : Int)) ∈ F := by rw [← hh]; exact hy
    obtain ⟨y4, j', ws', y6, y7, y8, y9, lh', r1, r2, r3⟩ := way_while Y T (some (.lst (L.map pairE.d))) 100000 y.2 h [.lst [.str "out"]] 0 [.out] none none none none hy' (by omega) rfl (by simp; omega)
    simp only [List.length_singleton] at r2
    refine ⟨some ws', fun ws z => by cases z; omega, fun lh => ?_⟩
    have eq : eqG [] (.lst (L.map pairE.d)) (.lst []) = .v (.bl false) := by
      have := pairE.lst.eq L [] []
      rw [show decide (L = []) = false by rw [hLq]; rfl] at this
      exact this
    have run : f__law_way [linesD ls, .lst (o.map .int), hsD F] [] = .ok (.loc j') lh' := by
      unfold f__law_way fnM
      show (match (sSeq _ (sSeq (sIf (t2 eqG (eVar 3) (eLst false aNil)) (sRet (eC .non)) sNil) (sSeq (sAsg (gbTup (gbCons (gbName 4) (gbCons (gbName 5) gbNil))) (eTup (aCons (e2 false ixG (e2 false ixG (eVar 3) (eC (.int 0))) (eC (.int 1))) (aCons (eLst true (aCons (eC (.str "out")) aNil)) aNil)))) (sSeq (sWhile 100000 _ _) (sRet (eVar 5)))))) (wT ls o F none none none none none none none) [] with
        | .nx _ lh => Res.ok D.non lh | .rt d lh => .ok d lh | .exc c _ lh => .exc c lh | .bk _ _ => .stuck | .stuck => .stuck) = _
      rw [z_seq, w1, z_sq1, z_seq]
      have w2 : (sIf (t2 eqG (eVar 3) (eLst false aNil)) (sRet (eC .non)) sNil) (wT ls o F (some (.lst (L.map pairE.d))) none none none none none none) [] = .nx (wT ls o F (some (.lst (L.map pairE.d))) none none none none none none) [] := by
        rw [z_sif]
        simp [wT, eq]
      have w3 : (sAsg (gbTup (gbCons (gbName 4) (gbCons (gbName 5) gbNil))) (eTup (aCons (e2 false ixG (e2 false ixG (eVar 3) (eC (.int 0))) (eC (.int 1))) (aCons (eLst true (aCons (eC (.str "out")) aNil)) aNil)))) (wT ls o F (some (.lst (L.map pairE.d))) none none none none none none) [] = .nx (wT ls o F (some (.lst (L.map pairE.d))) (some (stD y.2)) (some (.loc 0)) none none none none) [.lst [.str "out"]] := by
        have i0 : ∀ lh, ixG lh (.lst (L.map pairE.d)) (.int 0) = .v (pairE.d y) := fun lh => z_ixL (i := 0) (by rw [hLq]; rfl)
        have i1 : ∀ lh, ixG lh (pairE.d y) (.int 1) = .v (stD y.2) := fun lh => z_ixT (i := 1) rfl
        have s1 : (1 : Nat) ≤ sizeLine := by decide
        have s2 : (2 : Nat) ≤ sizeLine := by decide
        simp [wT, i0, i1, s1, s2]
      rw [w2, z_sq1, z_seq, w3, z_sq1, z_seq]
      have r3' : sWhile 100000 (t2 neG (eVar 4) (eCallP 1 f__law_first (aCons (eVar 0) aNil))) (sFor 0 (iOf (eCall false sortA (aCons (eVar 2) aNil))) (gbName 6) b0__law_way) (wT ls o F (some (.lst (L.map pairE.d))) (some (stD y.2)) (some (.loc 0)) none none none none) [.lst [.str "out"]] = _ := r3
      rw [r3', z_sq1]
      rfl
    refine callP_of2 (args3 (frz_lines _ 8 ls) (frz_oD _ 10 o) (hfz [])) run ?_
    exact frz_loc r1 fun x hx => by
      obtain ⟨w, _, rfl⟩ := List.mem_map.mp hx
      rfl
end Lw

namespace Lw
open PySem Tb
/-- how many engines -/
def nEng (ls : List (Int × List Int)) : Nat := (ls.map (·.2)).flatten.length
theorem eng_all : (okList.all fun ls => decide (1 ≤ nEng ls ∧ nEng ls ≤ 3) && ((ls.map (·.2)).all fun r => r.all fun z => decide (z < 3))) = true := by decide +kernel
theorem eng_ok {ls : List (Int × List Int)} (h : okB ls = true) : (1 ≤ nEng ls ∧ nEng ls ≤ 3) ∧ ∀ r ∈ ls.map (·.2), ∀ z ∈ r, z < 3 := by
  have q := List.all_eq_true.mp eng_all ls (ok_mem h)
  rw [Bool.and_eq_true] at q
  refine ⟨of_decide_eq_true q.1, fun r hr z hz => ?_⟩
  exact of_decide_eq_true (List.all_eq_true.mp (List.all_eq_true.mp q.2 r hr) z hz)
theorem ord_of {ls : List (Int × List Int)} (hok : okB ls = true) (Y : Yard ls) {o : List Int} (ho : o.length = nEng ls) : Ord ls o := by
  obtain ⟨h1, h2⟩ := eng_ok hok
  have ht : (thr (fst ls)).length = nEng ls := by
    rw [thr_length]
    show (if (0 : Int) ≤ -1 then 1 else 0) + _ = _
    rw [if_neg (by omega), Nat.zero_add]
    rfl
  exact ⟨⟨fst_good Y, by omega, by omega⟩, ⟨h2, by show (-1 : Int) < 3; omega⟩⟩
theorem order_call {ls : List (Int × List Int)} (hok : okB ls = true) (Y : Yard ls) (ns : List Int) (b : Nat) (hb : b ≤ 90) : ∃ o : List Int, o.length = nEng ls ∧ ∀ lh, callP f__law_order [scD ns, .int (b : Nat), linesD ls] lh = .ok (.lst (o.map .int)) lh := by
  obtain ⟨⟨hn1, hn3⟩, _⟩ := eng_ok hok
  obtain ⟨c, hc⟩ := cell_call ns b
  obtain ⟨t, t0, t6, ht⟩ := number_call c ((b : Int) + 8) 6 (by omega) (by omega) (by omega)
  obtain ⟨n, hn⟩ : ∃ n, n = nEng ls := ⟨_, rfl⟩
  rw [← hn] at hn1 hn3 ⊢
  have hsumL : ((ls.map fun q => (q.2.length : Int)).sum) = (n : Int) := by
    rw [hn]
    unfold nEng
    have : ∀ l : List (Int × List Int), ((l.map fun q => (q.2.length : Int)).sum) = ((l.map (·.2)).flatten.length : Int) := by
      intro l
      induction l with
      | nil => rfl
      | cons a l ih => simp only [List.map_cons, List.sum_cons, List.flatten_cons, List.length_append, ih]; omega
    exact this ls
  have h0 := fm0 t (n := (n : Int)) (by omega)
  have h1 := fm1 t (n := (n : Int)) (by omega)
  obtain ⟨i, hi⟩ := Int.eq_ofNat_of_zero_le h0
  obtain ⟨L, hL⟩ : ∃ L : List Int, L = (List.range n).map fun i => ((i : Nat) : Int) := ⟨_, rfl⟩
  have hlL : L.length = n := by simp [hL]
  have hil : i ≤ L.length := by omega
  obtain ⟨L1, hL1⟩ : ∃ L1 : List Int, L1 = L.drop i ++ L.take i := ⟨_, rfl⟩
  have hl1 : L1.length = n := by simp only [hL1, List.length_append, List.length_drop, List.length_take]; omega
  refine ⟨if 2 < t then L1.reverse else L1, by split <;> simp [hl1], fun lh => ?_⟩
  have lc : ∀ lh, lcL (gbTup (gbCons (gbName 5) (gbCons (gbName 6) gbNil))) tYesD (eCall false lenG (aCons (eVar 6) aNil)) [5, 6] [some (scD ns), some (.int (b : Nat)), some (linesD ls), none, none, none, none] (ls.map lineD) lh = some ((ls.map fun q => (q.2.length : Int)).map .int, lh) := fun lh => by
    have := lcL_map (f := lineD) (f2 := D.int) (g := gbTup (gbCons (gbName 5) (gbCons (gbName 6) gbNil))) (t := tYesD) (e := eCall false lenG (aCons (eVar 6) aNil)) (vs := [5, 6]) (τ := [some (scD ns), some (.int (b : Nat)), some (linesD ls), none, none, none, none]) (lh := lh) (fun q => some (q.2.length : Int)) (l := ls) fun q _ => ⟨[(5, .int q.1), (6, rowD q.2)], rfl, rfl, .inr ⟨_, rfl, rfl, by
      have hl : ∀ lh, lenG lh [rowD q.2] = .v (.int q.2.length) := fun lh => by
        show Ro.v (.int ((q.2.map D.int).length : Int)) = _
        rw [List.length_map]
      simp [hl]⟩⟩
    rw [this]
    simp
  have hz : ((ls.map fun q => (q.2.length : Int)).map D.int).length ≤ sizeLine := Nat.le_trans (by simp; exact Y.hi) (show 3 ≤ sizeLine by decide)
  have s1 : (sSet 3 (eLisRng false (eCall false sumG (aCons (eLc false (iOf (eVar 2)) (gbTup (gbCons (gbName 5) (gbCons (gbName 6) gbNil))) tYesD (eCall false lenG (aCons (eVar 6) aNil)) [5, 6]) aNil)))) [some (scD ns), some (.int (b : Nat)), some (linesD ls), none, none, none, none] [] = .nx [some (scD ns), some (.int (b : Nat)), some (linesD ls), some (.lst (L.map .int)), none, none, none] [] := by
    have ev : eLc false (iOf (eVar 2)) (gbTup (gbCons (gbName 5) (gbCons (gbName 6) gbNil))) tYesD (eCall false lenG (aCons (eVar 6) aNil)) [5, 6] [some (scD ns), some (.int (b : Nat)), some (linesD ls), none, none, none, none] [] = .ok (.lst ((ls.map fun q => (q.2.length : Int)).map .int)) [] := by
      show (match lcL (gbTup (gbCons (gbName 5) (gbCons (gbName 6) gbNil))) tYesD (eCall false lenG (aCons (eVar 6) aNil)) [5, 6] [some (scD ns), some (.int (b : Nat)), some (linesD ls), none, none, none, none] (ls.map lineD) [] with
        | some (ys, lh) => fin false ys lh
        | none => .stuck) = _
      rw [lc]
      simp only [fin, hz, if_true]
      rfl
    have es : eCall false sumG (aCons (eLc false (iOf (eVar 2)) (gbTup (gbCons (gbName 5) (gbCons (gbName 6) gbNil))) tYesD (eCall false lenG (aCons (eVar 6) aNil)) [5, 6]) aNil) [some (scD ns), some (.int (b : Nat)), some (linesD ls), none, none, none, none] [] = .ok (.int (n : Int)) [] := by
      rw [z_call, z_ac, ev]
      simp only [z_ok, z_an, sum_ints, hsumL]
      rfl
    have hb : -(2 ^ 62) ≤ (n : Int) ∧ (n : Int) ≤ 2 ^ 24 := by omega
    have er : eLisRng false (eCall false sumG (aCons (eLc false (iOf (eVar 2)) (gbTup (gbCons (gbName 5) (gbCons (gbName 6) gbNil))) tYesD (eCall false lenG (aCons (eVar 6) aNil)) [5, 6]) aNil)) [some (scD ns), some (.int (b : Nat)), some (linesD ls), none, none, none, none] [] = .ok (.lst (intsD 0 (n : Int).toNat)) [] := by
      unfold eLisRng
      rw [es]
      show (if -(2 ^ 62) ≤ (n : Int) ∧ (n : Int) ≤ 2 ^ 24 then (Ro.l (intsD 0 (n : Int).toNat)).res false [] else .stuck) = _
      rw [if_pos hb]
      rfl
    rw [z_set, er, rngD]
    show SRes.nx _ _ = _
    rw [hL]
    rfl
  have s2 : (sSet 4 (eCallP 3 f__law_number (aCons (eCallP 2 f__law_cell_at (aCons (eVar 0) (aCons (eVar 1) aNil))) (aCons (e2 false addG (eVar 1) (eC (.int 8))) (aCons (eC (.int 6)) aNil))))) [some (scD ns), some (.int (b : Nat)), some (linesD ls), some (.lst (L.map .int)), none, none, none] [] = .nx [some (scD ns), some (.int (b : Nat)), some (linesD ls), some (.lst (L.map .int)), some (.int t), none, none] [] := by
    simp [hc, ht]
  have hadd : ∀ lh, addG lh (.lst ((L.map .int).drop i)) (.lst ((L.map .int).take i)) = .l (L1.map .int) := fun lh => by
    show (if ((L.map D.int).drop i).length + ((L.map D.int).take i).length ≤ sizeLine then Ro.l (((L.map .int).drop i) ++ ((L.map .int).take i)) else .no) = _
    rw [if_pos (Nat.le_trans (by simp; omega) (show 3 ≤ sizeLine by decide))]
    simp [hL1]
  have hlen : ∀ lh, lenG lh [.lst (L.map .int)] = .v (.int n) := fun lh => by
    show Ro.v (.int ((L.map D.int).length : Int)) = _
    rw [List.length_map, hlL]
  have hn0 : (n : Int) ≠ 0 := by omega
  have s3 : (sSet 3 (e2 false addG (eSl false (eVar 3) (oSome (e2 false modG (eVar 4) (eCall false lenG (aCons (eVar 3) aNil)))) oNone) (eSl false (eVar 3) oNone (oSome (e2 false modG (eVar 4) (eCall false lenG (aCons (eVar 3) aNil))))))) [some (scD ns), some (.int (b : Nat)), some (linesD ls), some (.lst (L.map .int)), some (.int t), none, none] [] = .nx [some (scD ns), some (.int (b : Nat)), some (linesD ls), some (.lst (L1.map .int)), some (.int t), none, none] [] := by
    have hm : ∀ lh, modG lh (.int t) (.int n) = .v (.int (i : Nat)) := fun lh => by
      have := hi
      have hn0b : n ≠ 0 := by omega
      simp [hn0, hn0b, this]
    have c1 : ∀ lh, slG lh (.lst (L.map .int)) (some (i : Int)) none = .l ((L.map .int).drop i) := fun lh => by
      show Ro.l (cutD (L.map .int) (some (i : Int)) none) = _
      rw [cutL_from L i hil, List.map_drop]
    have c2 : ∀ lh, slG lh (.lst (L.map .int)) none (some (i : Int)) = .l ((L.map .int).take i) := fun lh => by
      show Ro.l (cutD (L.map .int) none (some (i : Int))) = _
      rw [cutL_to L i hil, List.map_take]
    simp [hlen, hm, cutL_from L i hil, cutL_to L i hil, hadd]
  refine callP_of2 (lh' := if 2 < t then [.lst (L1.reverse.map .int)] else []) (d := if 2 < t then .loc 0 else .lst (L1.map .int)) (args3 (frz_sc _ 10 ns) rfl (frz_lines _ 8 ls)) ?_ ?_
  · unfold f__law_order fnM
    show (match (sSeq _ (sSeq _ (sSeq _ (sRet (eIf (t2 gtG (eVar 4) (eC (.int 2))) (e1 true revA (eVar 3)) (eVar 3)))))) [some (scD ns), some (.int (b : Nat)), some (linesD ls), none, none, none, none] [] with
      | .nx _ lh => Res.ok D.non lh | .rt d lh => .ok d lh | .exc c _ lh => .exc c lh | .bk _ _ => .stuck | .stuck => .stuck) = _
    rw [z_seq, s1, z_sq1, z_seq, s2, z_sq1, z_seq, s3, z_sq1]
    by_cases ht2 : 2 < t
    · have hrev : revA [] (.lst (L1.map .int)) = .l (L1.reverse.map .int) := by
        show Ro.l (L1.map .int).reverse = _
        rw [List.map_reverse]
      rw [if_pos ht2, if_pos ht2]
      simp [ht2, hrev]
    · rw [if_neg ht2, if_neg ht2]
      simp [ht2]
  · by_cases ht2 : 2 < t
    · rw [if_pos ht2, if_pos ht2, if_pos ht2]
      exact frz_loc0 _
    · rw [if_neg ht2, if_neg ht2, if_neg ht2]
      exact frz_oD _ 10 _
end Lw

namespace Lw
open PySem Tb
/-! ### deeds that bring all out in an order -/
def lastOut (ws : List Wd) : Bool := decide (ws.getLast? = some .out)
def brg (ls : List (Int × List Int)) (o : List Int) (ws : List Wd) : Bool := decide ((gon ls ws 0 (fst ls) []).2.2 < 0) && (decide ((gon ls ws 0 (fst ls) []).2.1 = o) && lastOut ws)
def wdsOf (ts : List Tw) : List Wd := ts.filterMap fun t => match t with
  | .d w => some w
  | .o _ => none
def wi (ls : List (Int × List Int)) (o : List Int) (many : Int) (ts : List Tw) : Bool := decide ((ts.length : Int) ≤ many) && (ts.all Tw.isD && brg ls o (wdsOf ts))
theorem allD_eq : ∀ ts : List Tw, ts.all Tw.isD = true → ts = dws (wdsOf ts)
  | [], _ => rfl
  | .d w :: ts, h => by
    have ih := allD_eq ts (by simpa [Tw.isD] using h)
    show Tw.d w :: ts = Tw.d w :: dws (wdsOf ts)
    rw [← ih]
  | .o w :: ts, h => by simp [Tw.isD] at h
theorem blsOf (l : List Bool) : mapO blOf (l.map D.bl) = some l := by
  have := mapO_map (f := blOf) (g := D.bl) (h := id) (l := l) fun _ _ => rfl
  rw [this, List.map_id]
theorem allB (lh : LH) (l : List Bool) : allG lh [.lst (l.map .bl)] = .v (.bl (l.all id)) := by simp [allG, blsOf, asS, asL]
theorem anyB (lh : LH) (l : List Bool) : anyG lh [.lst (l.map .bl)] = .v (.bl (l.any id)) := by simp [anyG, blsOf, asS, asL]
theorem frzTale {lh : LH} {d : D} {ts : List Tw} (h : TaleAt lh d ts) (n : Nat) : frz lh (n + 2) d = some (.lst (twD ts)) := by
  cases h with
  | v => exact frz_tw lh n ts
  | @l k _ hn =>
    have e := frz_tw lh n ts
    unfold lstAt at hn
    show (match lh[k]? with
      | some (.lst ds) => (match mapO (frz lh (n + 1)) ds with
        | some ks => some (D.lst ks)
        | none => none)
      | some (.dic ks us) => (match mapO (frz lh (n + 1)) us with
        | some us => some (D.dic ks us)
        | none => none)
      | _ => none) = _
    split at hn
    · rename_i q
      cases hn
      rw [q]
      exact e
    · cases hn
theorem cutLast (r : List Wd) (w : Wd) : cutD (wsD (r ++ [w])) (some (-1)) none = [.str w.s] := by
  have hl : (wsD (r ++ [w])).length = r.length + 1 := by simp [wsD]
  have := cut_from (xs := wsD (r ++ [w])) (i := r.length) (by omega)
  have e1' : HT.sIx (wsD (r ++ [w])).length 0 (some (-1)) = r.length := by
    rw [hl]
    show (if (-1 : Int) < 0 then ((-1 : Int) + ((r.length + 1 : Nat) : Int)).toNat else min (-1 : Int).toNat (r.length + 1)) = _
    rw [if_pos (by omega)]
    omega
  have e2' : HT.sIx (wsD (r ++ [w])).length 0 (some (r.length : Int)) = r.length := by
    rw [HT.sIx_nat, hl]
    omega
  have e : cutD (wsD (r ++ [w])) (some (-1)) none = cutD (wsD (r ++ [w])) (some (r.length : Int)) none := by
    unfold cutD
    rw [e1', e2']
  rw [e, this]
  simp [wsD]
theorem lwithin_call {ls : List (Int × List Int)} (Y : Yard ls) (o : List Int) (many : Int) (hm : many ≤ 60) (ts : List Tw) (lh : LH) : callP f__law_is_within [linesD ls, .lst (o.map .int), .int many, .lst (twD ts)] lh = .ok (.bl (wi ls o many ts)) lh := by
  have hlen : ∀ lh, lenG lh [.lst (twD ts)] = .v (.int ts.length) := fun lh => lenTale (.v ts)
  have hn : ∀ lh, negG lh (.int 1) = .v (.int (-1)) := fun lh => rfl
  have run : f__law_is_within [linesD ls, .lst (o.map .int), .int many, .lst (twD ts)] [] = .ok (.bl (wi ls o many ts)) [] := by
    by_cases h1 : many < (ts.length : Int)
    · have e : wi ls o many ts = false := by
        unfold wi
        rw [decide_eq_false (by omega), Bool.false_and]
      simp [f__law_is_within, m__law_is_within, fnM, hlen, h1, truD, e]
    · have hl60 : ts.length ≤ 60 := by omega
      have s5 : (5 : Nat) ≤ sizeLine := by decide
      have s1 : (1 : Nat) ≤ sizeLine := by decide
      have lc : ∀ τ : Tau, ∀ lh, lcL (gbName 7) tYesD (e2 false notInG (eVar 7) (eTup (aCons (eC (.str "left")) (aCons (eC (.str "out")) (aCons (eC (.str "put")) (aCons (eC (.str "right")) (aCons (eC (.str "take")) aNil))))))) [7] [some (linesD ls), some (.lst (o.map .int)), some (.int many), some (.lst (twD ts)), none, none, none, none] (ts.map fun w => .str w.s) lh = some ((ts.map fun w => !w.isD).map .bl, lh) := fun τ lh => by
        have := lcL_map (f := fun w : Tw => D.str w.s) (f2 := D.bl) (g := gbName 7) (t := tYesD) (e := e2 false notInG (eVar 7) (eTup (aCons (eC (.str "left")) (aCons (eC (.str "out")) (aCons (eC (.str "put")) (aCons (eC (.str "right")) (aCons (eC (.str "take")) aNil))))))) (vs := [7]) (τ := [some (linesD ls), some (.lst (o.map .int)), some (.int many), some (.lst (twD ts)), none, none, none, none]) (lh := lh) (fun w => some (!w.isD)) (l := ts) fun w _ => ⟨[(7, .str w.s)], rfl, rfl, .inr ⟨_, rfl, rfl, by
          have := notIn5 lh w
          simp [s5, this]⟩⟩
        rw [this]
        simp
      have hz : ((ts.map fun w => !w.isD).map D.bl).length ≤ sizeLine := Nat.le_trans (by simp; exact hl60) (show 60 ≤ sizeLine by decide)
      have ev : ∀ lh, eLc false (iOf (eVar 3)) (gbName 7) tYesD (e2 false notInG (eVar 7) (eTup (aCons (eC (.str "left")) (aCons (eC (.str "out")) (aCons (eC (.str "put")) (aCons (eC (.str "right")) (aCons (eC (.str "take")) aNil))))))) [7] [some (linesD ls), some (.lst (o.map .int)), some (.int many), some (.lst (twD ts)), none, none, none, none] lh = .ok (.lst ((ts.map fun w => !w.isD).map .bl)) lh := fun lh => by
        show (match lcL (gbName 7) tYesD _ [7] [some (linesD ls), some (.lst (o.map .int)), some (.int many), some (.lst (twD ts)), none, none, none, none] (ts.map fun w => .str w.s) lh with
          | some (ys, lh) => fin false ys lh
          | none => .stuck) = _
        rw [lc [] lh]
        simp only [fin, hz, if_true]
        rfl
      have hany := fun lh => anyB lh (ts.map fun w => !w.isD)
      have eany : (ts.map fun w => !w.isD).any id = !(ts.all Tw.isD) := by
        induction ts with
        | nil => rfl
        | cons a l ih => simp [List.all_eq_not_any_not]
      rw [eany] at hany
      have t1 : (tOrD (t2 gtG (eCall false lenG (aCons (eVar 3) aNil)) (eVar 2)) (tOf (eCall false anyG (aCons (eLc false (iOf (eVar 3)) (gbName 7) tYesD (e2 false notInG (eVar 7) (eTup (aCons (eC (.str "left")) (aCons (eC (.str "out")) (aCons (eC (.str "put")) (aCons (eC (.str "right")) (aCons (eC (.str "take")) aNil))))))) [7]) aNil)))) [some (linesD ls), some (.lst (o.map .int)), some (.int many), some (.lst (twD ts)), none, none, none, none] [] = .ok (!(ts.all Tw.isD)) [] := by
        have b1 : (t2 gtG (eCall false lenG (aCons (eVar 3) aNil)) (eVar 2)) [some (linesD ls), some (.lst (o.map .int)), some (.int many), some (.lst (twD ts)), none, none, none, none] [] = .ok false [] := by
          simp [hlen, h1]
        rw [z_or, b1, z_ok, if_neg (by simp), z_of, z_call, z_ac, ev]
        simp only [z_an, z_ok, hany, z_rv, truD]
      have dle : decide ((ts.length : Int) ≤ many) = true := decide_eq_true (by omega)
      unfold f__law_is_within fnM
      show (match (sSeq (sIf _ _ sNil) _) [some (linesD ls), some (.lst (o.map .int)), some (.int many), some (.lst (twD ts)), none, none, none, none] [] with
        | .nx _ lh => Res.ok D.non lh | .rt d lh => .ok d lh | .exc c _ lh => .exc c lh | .bk _ _ => .stuck | .stuck => .stuck) = _
      rw [z_seq, z_sif, t1, z_toS]
      cases hall : ts.all Tw.isD with
      | false =>
        have e : wi ls o many ts = false := by
          unfold wi
          rw [hall, Bool.false_and, Bool.and_false]
        rw [e]
        rfl
      | true =>
        have hts := allD_eq ts hall
        obtain ⟨ws, hws⟩ : ∃ ws, ws = wdsOf ts := ⟨_, rfl⟩
        rw [← hws] at hts
        have hwl : ws.length ≤ 60 := by
          have : ts.length = ws.length := by rw [hts]; simp [dws]
          omega
        have e : wi ls o many ts = brg ls o ws := by
          unfold wi
          rw [hall, dle, ← hws, Bool.true_and, Bool.true_and]
        have hD : twD ts = wsD ws := by rw [hts, dws_D]
        rw [e, hD]
        have hg := lgone_call Y ws (by omega) []
        have s2 : (sAsg (gbTup (gbCons (gbName 4) (gbCons (gbName 5) (gbCons (gbName 6) gbNil)))) (eCallP 2 f__law_gone (aCons (eVar 0) (aCons (eVar 3) aNil)))) [some (linesD ls), some (.lst (o.map .int)), some (.int many), some (.lst (wsD ws)), none, none, none, none] [] = .nx [some (linesD ls), some (.lst (o.map .int)), some (.int many), some (.lst (wsD ws)), some (stD (gon ls ws 0 (fst ls) []).1), some (.lst ((gon ls ws 0 (fst ls) []).2.1.map .int)), some (.int (gon ls ws 0 (fst ls) []).2.2), none] [] := by
          simp [hg, goD]
        show (match (SRes.seq (SRes.nx _ _) fun τ lh => (sSeq (sAsg _ _) _) τ lh) with
          | .nx _ lh => Res.ok D.non lh | .rt d lh => .ok d lh | .exc c _ lh => .exc c lh | .bk _ _ => .stuck | .stuck => .stuck) = _
        rw [z_sq1, z_seq, s2, z_sq1]
        have he := eqInts (gon ls ws 0 (fst ls) []).2.1 o []
        have hl : ∃ l : List D, cutD (wsD ws) (some (-1)) none = l ∧ eqG [] (.lst l) (.lst [.str "out"]) = .v (.bl (lastOut ws)) := by
          rcases List.eq_nil_or_concat ws with rfl | ⟨r, w, rfl⟩
          · exact ⟨[], rfl, (eqWs [] [.out] []).trans rfl⟩
          · rw [List.concat_eq_append]
            refine ⟨[.str w.s], cutLast r w, ?_⟩
            have := eqWs [w] [.out] []
            have e : lastOut (r ++ [w]) = decide ([w] = [Wd.out]) := by
              unfold lastOut
              simp
            rw [e]
            exact this
        obtain ⟨l, hl1, hl2⟩ := hl
        unfold brg
        generalize gon ls ws 0 (fst ls) [] = G at he ⊢
        have s1 : (1 : Nat) ≤ sizeLine := by decide
        by_cases p0 : G.2.2 < 0
        · by_cases p1 : G.2.1 = o
          · have he' : eqG [] (.lst (o.map .int)) (.lst (o.map .int)) = .v (.bl true) := (eqInts o o []).trans (by simp)
            simp [p0, p1, he', truD, hn, hl1, hl2, s1]
          · have he' : eqG [] (.lst (G.2.1.map .int)) (.lst (o.map .int)) = .v (.bl false) := by rw [he, decide_eq_false p1]
            simp [p0, p1, he', truD]
        · simp [p0, truD]
  exact callP_of (fun x hx => by
    simp only [List.mem_cons, List.not_mem_nil, or_false] at hx
    rcases hx with rfl | rfl | rfl | rfl
    · exact frz_lines _ 8 ls
    · exact frz_oD _ 10 o
    · rfl
    · exact frz_tw _ 10 ts) run rfl
theorem brings_run {ls : List (Int × List Int)} (Y : Yard ls) (o : List Int) (ws : List Wd) (hw : ws.length ≤ 200) : f_brings [linesD ls, .lst (o.map .int), .lst (wsD ws)] [] = .ok (.bl (brg ls o ws)) [] := by
  have hg := gone_call Y ws hw []
  have hn : ∀ lh, negG lh (.int 1) = .v (.int (-1)) := fun lh => rfl
  have s2 : (sAsg (gbTup (gbCons (gbName 3) (gbCons (gbName 4) (gbCons (gbName 5) gbNil)))) (eCallP 2 f_gone_by (aCons (eVar 0) (aCons (eVar 2) aNil)))) [some (linesD ls), some (.lst (o.map .int)), some (.lst (wsD ws)), none, none, none] [] = .nx [some (linesD ls), some (.lst (o.map .int)), some (.lst (wsD ws)), some (stD (gon ls ws 0 (fst ls) []).1), some (.lst ((gon ls ws 0 (fst ls) []).2.1.map .int)), some (.int (gon ls ws 0 (fst ls) []).2.2)] [] := by
    simp [hg, goD]
  have he := eqInts (gon ls ws 0 (fst ls) []).2.1 o []
  have hne : neG [] (.lst (wsD ws)) (.lst []) = .v (.bl (!decide (ws = []))) := wdE.lst.ne ws [] []
  have s0 : (0 : Nat) ≤ sizeLine := by decide
  unfold f_brings fnM
  show (match (sSeq (sAsg _ _) _) [some (linesD ls), some (.lst (o.map .int)), some (.lst (wsD ws)), none, none, none] [] with
    | .nx _ lh => Res.ok D.non lh | .rt d lh => .ok d lh | .exc c _ lh => .exc c lh | .bk _ _ => .stuck | .stuck => .stuck) = _
  rw [z_seq, s2, z_sq1]
  unfold brg
  generalize gon ls ws 0 (fst ls) [] = G at he ⊢
  by_cases p0 : G.2.2 < 0
  · rcases List.eq_nil_or_concat ws with rfl | ⟨r, w, rfl⟩
    · have hne' : neG [] (.lst (wsD [])) (.lst []) = .v (.bl false) := hne.trans rfl
      have el : lastOut [] = false := rfl
      simp [p0, hne', truD, el]
    · rw [List.concat_eq_append] at hne ⊢
      have hne' : neG [] (.lst (wsD (r ++ [w]))) (.lst []) = .v (.bl true) := hne.trans (by simp)
      have hix : ixG [] (.lst (wsD (r ++ [w]))) (.int (-1)) = .v (.str w.s) := by
        have e : L2.atI (wsD (r ++ [w])) (-1) = some (.str w.s) := by
          unfold L2.atI L2.ixN
          simp [wsD]
          rw [if_pos (by omega)]
          simp
          rw [show (-1 + ((r.length : Int) + 1)).toNat = r.length by omega]
          simp
        show (match L2.atI (wsD (r ++ [w])) (-1) with
          | some d => Ro.v d
          | none => .no) = _
        rw [e]
      have eo := eqOut [] w
      have el : lastOut (r ++ [w]) = decide (w = Wd.out) := by
        unfold lastOut
        simp
      rw [el]
      by_cases pw : w = .out
      · have eo' : eqG [] (.str w.s) (.str "out") = .v (.bl true) := by rw [eo, decide_eq_true pw]
        by_cases p1 : G.2.1 = o
        · have he' : eqG [] (.lst (o.map .int)) (.lst (o.map .int)) = .v (.bl true) := (eqInts o o []).trans (by simp)
          simp [p0, p1, he', truD, hne', hn, hix, eo', decide_eq_true pw]
        · have he' : eqG [] (.lst (G.2.1.map .int)) (.lst (o.map .int)) = .v (.bl false) := by rw [he, decide_eq_false p1]
          simp [p0, p1, he', truD, hne', hn, hix, eo']
      · have eo' : eqG [] (.str w.s) (.str "out") = .v (.bl false) := by rw [eo, decide_eq_false pw]
        simp [p0, truD, hne', hn, hix, eo', decide_eq_false pw]
  · simp [p0, truD]
theorem isDeedT (t : Tw) (lh : LH) : callP f_is_deed [.str t.s] lh = .ok (.bl t.isD) lh := by
  have e : f_is_deed [.str t.s] [] = .ok (.bl t.isD) [] := by rcases t with w | w <;> cases w <;> kernel_rfl
  exact callP_of (args1 rfl) e rfl
theorem within_shows {ls : List (Int × List Int)} (Y : Yard ls) (o : List Int) (many : Int) (hm : many ≤ 60) {ts : List Tw} {lh : LH} {a d : Nat} (ha : insAt lh (.loc a) = some (a, ("Within" : Str), ([("deeds", .loc d)] : List (Str × D)))) (hd : lstAt lh d = some (twD ts)) :
    f_Within_shows [.loc a, linesD ls, .lst (o.map .int), .int many] lh = .ok (.bl (wi ls o many ts)) lh := by
  have ht : TaleAt lh (.loc d) ts := .l hd
  have hlen := lenTale ht
  have l1 : ([("deeds", .loc d)] : List (Str × D)).lookup ("deeds" : Str) = some (.loc d) := by simp
  have c1 : cs_deeds.contains ("Within" : Str) = true := by decide +kernel
  have vd : ∀ x4 : Option D, eFldC cs_deeds "deeds" (eVar 0) [some (.loc a), some (linesD ls), some (.lst (o.map .int)), some (.int many), x4] lh = .ok (.loc d) lh := fun x4 => by
    rw [z_fldC]
    show ((Res.ok (D.loc a) lh).bind _) = _
    rw [z_ok, ha]
    simp only [c1, l1, if_true]
  by_cases h1 : many < (ts.length : Int)
  · have e : wi ls o many ts = false := by
      unfold wi
      rw [decide_eq_false (by omega), Bool.false_and]
    have b1 : (t2 gtG (eCall false lenG (aCons (eFldC cs_deeds "deeds" (eVar 0)) aNil)) (eVar 3)) [some (.loc a), some (linesD ls), some (.lst (o.map .int)), some (.int many), none] lh = .ok true lh := by
      rw [z_t2, z_call, z_ac, vd]
      simp [hlen, h1]
    rw [e]
    unfold f_Within_shows fnM
    show (match (sSeq (sIf (tOrD _ _) _ sNil) _) [some (.loc a), some (linesD ls), some (.lst (o.map .int)), some (.int many), none] lh with
      | .nx _ lh => Res.ok D.non lh | .rt d lh => .ok d lh | .exc c _ lh => .exc c lh | .bk _ _ => .stuck | .stuck => .stuck) = _
    rw [z_seq, z_sif, z_or, b1]
    rfl
  · have hl60 : ts.length ≤ 60 := by omega
    have b1 : (t2 gtG (eCall false lenG (aCons (eFldC cs_deeds "deeds" (eVar 0)) aNil)) (eVar 3)) [some (.loc a), some (linesD ls), some (.lst (o.map .int)), some (.int many), none] lh = .ok false lh := by
      rw [z_t2, z_call, z_ac, vd]
      simp [hlen, h1]
    have H : ∀ t ∈ ts, ∃ bs, gbName 4 lh (.str t.s) = some bs ∧ bs.all (fun p => [4].contains p.1) = true ∧ (((fun t : Tw => some t.isD) t = none ∧ tYesD (setAll [some (.loc a), some (linesD ls), some (.lst (o.map .int)), some (.int many), none] (bs.map (·.1)) (bs.map (·.2))) lh = .ok false lh) ∨ ∃ y, (fun t : Tw => some t.isD) t = some y ∧ tYesD (setAll [some (.loc a), some (linesD ls), some (.lst (o.map .int)), some (.int many), none] (bs.map (·.1)) (bs.map (·.2))) lh = .ok true lh ∧ eCallP 1 f_is_deed (aCons (eVar 4) aNil) (setAll [some (.loc a), some (linesD ls), some (.lst (o.map .int)), some (.int many), none] (bs.map (·.1)) (bs.map (·.2))) lh = .ok (D.bl y) lh) := fun t _ => ⟨[(4, .str t.s)], rfl, rfl, .inr ⟨_, rfl, rfl, by simp [isDeedT]⟩⟩
    have e := lcN_map (f := fun w : Tw => D.str w.s) (f2 := D.bl) (fun t => some t.isD) hd H (ts.length + 1) 0 (by omega) (by omega)
    have hz : ((ts.map Tw.isD).map D.bl).length ≤ sizeLine := Nat.le_trans (by simp; exact hl60) (show 60 ≤ sizeLine by decide)
    have ev : eLc false (iOf (eFldC cs_deeds "deeds" (eVar 0))) (gbName 4) tYesD (eCallP 1 f_is_deed (aCons (eVar 4) aNil)) [4] [some (.loc a), some (linesD ls), some (.lst (o.map .int)), some (.int many), none] lh = .ok (.lst ((ts.map Tw.isD).map .bl)) lh := by
      have hi : iOf (eFldC cs_deeds "deeds" (eVar 0)) [some (.loc a), some (linesD ls), some (.lst (o.map .int)), some (.int many), none] lh = .ok (.dy d) lh := by
        rw [z_iof, vd, z_ok]
        simp only [hd, Option.isSome_some, if_true]
      have e3 : Wk.len lh (.dy d) = ts.length := by
        show (lstAt lh d).elim 0 List.length = _
        rw [hd]
        simp [twD]
      unfold eLc
      rw [hi, z_ok]
      show (match lcN (.dy d) (gbName 4) tYesD (eCallP 1 f_is_deed (aCons (eVar 4) aNil)) [4] [some (.loc a), some (linesD ls), some (.lst (o.map .int)), some (.int many), none] (Wk.len lh (.dy d) + 1) 0 lh with
        | some (ys, lh) => fin false ys lh
        | none => .stuck) = _
      rw [e3, e, List.drop_zero]
      have em : (ts.filterMap fun t => some t.isD).map D.bl = (ts.map Tw.isD).map .bl := by simp
      rw [em]
      simp only [fin, hz, if_true]
      rfl
    have hall := allB lh (ts.map Tw.isD)
    have eall : (ts.map Tw.isD).all id = ts.all Tw.isD := by
      rw [List.all_map]
      rfl
    rw [eall] at hall
    have t1 : (tOrD (t2 gtG (eCall false lenG (aCons (eFldC cs_deeds "deeds" (eVar 0)) aNil)) (eVar 3)) (tNotD (tOf (eCall false allG (aCons (eLc false (iOf (eFldC cs_deeds "deeds" (eVar 0))) (gbName 4) tYesD (eCallP 1 f_is_deed (aCons (eVar 4) aNil)) [4]) aNil))))) [some (.loc a), some (linesD ls), some (.lst (o.map .int)), some (.int many), none] lh = .ok (!(ts.all Tw.isD)) lh := by
      rw [z_or, b1, z_ok, if_neg (by simp), z_not, z_of, z_call, z_ac, ev]
      simp only [z_an, z_ok, hall, z_rv, truD]
    have dle : decide ((ts.length : Int) ≤ many) = true := decide_eq_true (by omega)
    unfold f_Within_shows fnM
    show (match (sSeq (sIf (tOrD _ _) _ sNil) (sRet (eCallP 3 f_brings (aCons (eVar 1) (aCons (eVar 2) (aCons (eFldC cs_deeds "deeds" (eVar 0)) aNil)))))) [some (.loc a), some (linesD ls), some (.lst (o.map .int)), some (.int many), none] lh with
      | .nx _ lh => Res.ok D.non lh | .rt d lh => .ok d lh | .exc c _ lh => .exc c lh | .bk _ _ => .stuck | .stuck => .stuck) = _
    rw [z_seq, z_sif, t1, z_toS]
    cases hq : ts.all Tw.isD with
    | false =>
      have e : wi ls o many ts = false := by
        unfold wi
        rw [hq, Bool.false_and, Bool.and_false]
      rw [e]
      rfl
    | true =>
      have hts := allD_eq ts hq
      have hwl : (wdsOf ts).length ≤ 60 := by
        have : ts.length = (wdsOf ts).length := by
          have := congrArg List.length hts
          rw [List.length_map] at this
          exact this
        omega
      have e : wi ls o many ts = brg ls o (wdsOf ts) := by
        unfold wi
        rw [hq, dle, Bool.true_and, Bool.true_and]
      have hD : twD ts = wsD (wdsOf ts) := by
        have : twD ts = twD (dws (wdsOf ts)) := by rw [← hts]
        rw [this, dws_D]
      have hb := brings_run Y o (wdsOf ts) (by omega)
      have hc : callP f_brings [linesD ls, .lst (o.map .int), .loc d] lh = .ok (.bl (brg ls o (wdsOf ts))) lh := by
        have k1 : frz lh fuel (linesD ls) = some (linesD ls) := frz_lines lh 8 ls
        have k2 : frz lh fuel (.lst (o.map .int)) = some (.lst (o.map .int)) := frz_oD lh 10 o
        have k3 : frz lh fuel (.loc d) = some (.lst (twD ts)) := frzTale ht 10
        have z1 : frz [] fuel (linesD ls) = some (linesD ls) := frz_lines [] 8 ls
        have z2 : frz [] fuel (.lst (o.map .int)) = some (.lst (o.map .int)) := frz_oD [] 10 o
        have z3 : frz [] fuel (.loc d) = none := rfl
        exact callP_L (ds' := [linesD ls, .lst (o.map .int), .lst (wsD (wdsOf ts))]) (by simp only [mapO, z1, z2, z3]) (by simp only [mapO, k1, k2, k3, hD]) hb rfl
      rw [e]
      show (match (SRes.seq (SRes.nx [some (.loc a), some (linesD ls), some (.lst (o.map .int)), some (.int many), none] lh) fun τ lh => sRet (eCallP 3 f_brings (aCons (eVar 1) (aCons (eVar 2) (aCons (eFldC cs_deeds "deeds" (eVar 0)) aNil)))) τ lh) with
        | .nx _ lh => Res.ok D.non lh | .rt d lh => .ok d lh | .exc c _ lh => .exc c lh | .bk _ _ => .stuck | .stuck => .stuck) = _
      have q3 : aCons (eFldC cs_deeds "deeds" (eVar 0)) aNil [some (.loc a), some (linesD ls), some (.lst (o.map .int)), some (.int many), none] lh = .ok [.loc d] lh := by
        rw [z_ac, vd]
        rfl
      have q2 : aCons (eVar 2) (aCons (eFldC cs_deeds "deeds" (eVar 0)) aNil) [some (.loc a), some (linesD ls), some (.lst (o.map .int)), some (.int many), none] lh = .ok [.lst (o.map .int), .loc d] lh := by
        rw [z_ac]
        show ((Res.ok (D.lst (o.map .int)) lh).bind _) = _
        rw [z_ok, q3]
        rfl
      have q1 : aCons (eVar 1) (aCons (eVar 2) (aCons (eFldC cs_deeds "deeds" (eVar 0)) aNil)) [some (.loc a), some (linesD ls), some (.lst (o.map .int)), some (.int many), none] lh = .ok [linesD ls, .lst (o.map .int), .loc d] lh := by
        rw [z_ac]
        show ((Res.ok (linesD ls) lh).bind _) = _
        rw [z_ok, q2]
        rfl
      rw [z_sq1, z_ret, z_callP, q1, z_ok, if_pos (show ([linesD ls, .lst (o.map .int), .loc d] : List D).length = 3 from rfl), hc]
      rfl
end Lw

namespace Lw
open PySem Tb
def la1 : SM := (sSet 9 (eCall true lisG (aCons (eVar 7) aNil)))
def la2 : SM := (sSet 10 (eMake "Within" 2 f_Within_init (aCons (eVar 9) aNil)))
def la3 : SM := (sDrop (eMt apG (eVar 9) (eC (.str "out"))))
def la4 : SM := (sIf (t2 neG (eFldC cs_deeds "deeds" (eVar 10)) (eVar 7)) (sRet (eC (.bl false))) sNil)
def la5 : SM := (sIf (tBl (eChain leG ltG (eC (.int 0)) (eVar 8) (eC (.int 61)))) (sSeq (sSet 11 (eCallP 4 f__law_is_within (aCons (eVar 2) (aCons (eVar 3) (aCons (eVar 8) (aCons (eVar 7) aNil)))))) (sIf (tNotD (tOf (eCallP 2 f__law_says (aCons (eMethM [("Within", f_Within_shows)] "shows" 4 (eVar 10) (aCons (eVar 2) (aCons (eVar 3) (aCons (eVar 8) aNil)))) (aCons (eVar 11) aNil))))) (sRet (eC (.bl false))) sNil)) sNil)
theorem la_eq : b0_law = sSeq la1 (sSeq la2 (sSeq la3 (sSeq la4 (la5)))) := rfl
def lb1 : SM := (sSet 2 (eCallP 3 f__law_yard (aCons (eVar 0) (aCons (eVar 1) (aCons (eC (.bl false)) aNil)))))
def lb2 : SM := (sSet 3 (eCallP 3 f__law_order (aCons (eVar 0) (aCons (eVar 1) (aCons (eVar 2) aNil)))))
def lb3 : SM := (sSet 4 (eCallP 3 f__law_way (aCons (eVar 2) (aCons (eVar 3) (aCons (eCallP 2 f__law_heights (aCons (eVar 2) (aCons (eVar 3) aNil))) aNil)))))
def lb4 : SM := (sSet 5 (eIf (t2 isNotG (eVar 4) (eC .non)) (eVar 4) (eLst false (aCons (eC (.str "take")) (aCons (eC (.str "out")) aNil)))))
def lb5 : SM := (sSet 6 (eLst true (aCons (eVar 5) (aCons (e2 false addG (eLst false (aCons (eC (.str "left")) (aCons (eC (.str "right")) aNil))) (eVar 5)) (aCons (e2 false addG (eVar 5) (eLst false (aCons (eC (.str "left")) aNil))) (aCons (eSl false (eVar 5) oNone (oSome (e1 false negG (eC (.int 1))))) (aCons (eSl false (eVar 5) (oSome (eC (.int 1))) oNone) (aCons (eLst false aNil) (aCons (e2 false addG (eLst false (aCons (eC (.str "halt")) aNil)) (eVar 5)) aNil)))))))))
def lb6 : SM := (sSet 6 (e2 true addG (eVar 6) (eLst false (aCons (e2 false mulG (eLst false (aCons (eC (.str "right")) aNil)) (eC (.int 4))) (aCons (e2 false addG (eLst false (aCons (eC (.str "take")) (aCons (eC (.str "put")) aNil))) (eVar 5)) (aCons (e2 false addG (eLst false (aCons (eC (.str "right")) (aCons (eC (.str "right")) aNil))) (eVar 5)) (aCons (e2 false addG (eVar 5) (eLst false (aCons (eC (.str "out")) aNil))) (aCons (eLst false (aCons (eC (.str "out")) aNil)) aNil))))))))
def lb7 : SM := (sDrop (eMt apG (eVar 6) (e2 false addG (e2 false mulG (eLst false (aCons (eC (.str "right")) aNil)) (eC (.int 200))) (eVar 5))))
def lb8 : SM := (sFor 0 (iOf (eVar 6)) (gbName 7) b1_law)
theorem lb_eq : b2_law = sSeq lb1 (sSeq lb2 (sSeq lb3 (sSeq lb4 (sSeq lb5 (sSeq lb6 (sSeq lb7 (lb8))))))) := rfl
def lw1 : SM := (sFor 0 (iRng (eC (.int 2))) (gbName 1) (sP b2_law))
def lw2 : SM := (sSet 12 (eCallS 3 f_within (aCons (eLst false (aCons (eTup (aCons (eC (.int 2)) (aCons (eTup (aCons (eC (.int 0)) (aCons (eC (.int 1)) aNil))) aNil))) (aCons (eTup (aCons (eC (.int 1)) (aCons (eTup aNil) aNil))) aNil))) (aCons (eLst false (aCons (eC (.int 0)) (aCons (eC (.int 1)) aNil))) (aCons (eC (.int 60)) aNil)))))
def lw3 : SM := (sPar [13, 14] (aCons (eLst true (aCons (eMethM [("Within", f_Within_shows)] "shows" 4 (eVar 12) (aCons (eLst false (aCons (eTup (aCons (eC (.int 2)) (aCons (eTup (aCons (eC (.int 0)) (aCons (eC (.int 1)) aNil))) aNil))) (aCons (eTup (aCons (eC (.int 1)) (aCons (eTup aNil) aNil))) aNil))) (aCons (eLst false (aCons (eC (.int 1)) (aCons (eC (.int 0)) aNil))) (aCons (eC (.int 60)) aNil)))) aNil)) (aCons (e2 false ixG (eFldC cs_deeds "deeds" (eVar 12)) (eC (.int 0))) aNil)))
def lw4 : SM := (sFor 0 (iOf (eTup (aCons (eC (.str "right")) (aCons (eC (.str "Take")) (aCons (eVar 14) aNil))))) (gbName 15) b3_law)
def lw5 : SM := (sFor 0 (iOf (eTup (aCons (eLst false (aCons (eLst false (aCons (eC (.str "take")) aNil)) (aCons (eC (.str "out")) aNil))) (aCons (eLst false (aCons (eC (.int 0)) (aCons (eC (.str "out")) aNil))) (aCons (eLst false (aCons (eC (.str "take")) (aCons (eC (.int 1)) aNil))) (aCons (eLst false (aCons (eC (.str "take")) (aCons (eC (.str "out\n")) aNil))) (aCons (eLst false (aCons (eC (.str "take\n")) (aCons (eC (.str "out")) aNil))) aNil))))))) (gbName 7) b4_law)
def lw6 : SM := (sRet (eAnd (e2 false isG (e2 false ixG (eVar 13) (eC (.int 0))) (eC (.bl false))) (e2 false eqG (eSl false (eVar 13) (oSome (eC (.int 2))) oNone) (eLst false (aCons (eC (.bl false)) (aCons (eC (.bl true)) aNil))))))
theorem lw_eq : m_law = sSeq lw1 (sSeq lw2 (sSeq lw3 (sSeq lw4 (sSeq lw5 (lw6))))) := rfl

abbrev xT (ns : List Int) (x1 x2 x3 x4 x5 x6 x7 x8 x9 x10 x11 x12 x13 x14 x15 : Option D) : Tau := [some (scD ns), x1, x2, x3, x4, x5, x6, x7, x8, x9, x10, x11, x12, x13, x14, x15]
theorem atExt {lh L : LH} (i : Nat) : (lh ++ L)[lh.length + i]? = L[i]? := by
  rw [List.getElem?_append_right (Nat.le_add_right _ _), Nat.add_sub_cancel_left]
theorem setExt {lh L : LH} (i : Nat) (u : LO) : (lh ++ L).set (lh.length + i) u = lh ++ L.set i u := by
  rw [List.set_append_right (h := Nat.le_add_right _ _), Nat.add_sub_cancel_left]
theorem lstExt {lh L : LH} {i : Nat} {xs : List D} (h : L[i]? = some (.lst xs)) : lstAt (lh ++ L) (lh.length + i) = some xs := by
  unfold lstAt
  rw [atExt, h]
theorem insExt {lh L : LH} {i : Nat} {c : Str} {fs : List (Str × D)} (h : L[i]? = some (.ins c fs)) : insAt (lh ++ L) (.loc (lh.length + i)) = some (lh.length + i, c, fs) := by
  refine insH ?_
  rw [atExt, h]
theorem within_init {lh : LH} {xs : List D} (h : lstAt lh lh.length = none → False) : True := trivial
theorem winit (lh : LH) (xs : List D) : f_Within_init [.loc (lh.length + 1), .loc lh.length] (lh ++ [.lst xs, .ins "Within" []]) = .ok .non (lh ++ [.lst xs, .ins "Within" [("deeds", .loc (lh.length + 2))], .lst xs]) := by
  have hl : lisG (lh ++ [.lst xs, .ins "Within" []]) [.loc lh.length] = .l xs := by
    have e : asS (lh ++ [.lst xs, .ins "Within" []]) (.loc lh.length) = some xs := by
      have := lstExt (lh := lh) (L := [.lst xs, .ins "Within" []]) (i := 0) (xs := xs) rfl
      exact this
    show (match asS (lh ++ [.lst xs, .ins "Within" []]) (.loc lh.length) with
      | some xs => Ro.l xs
      | none => .no) = _
    rw [e]
  have hv : eCall true lisG (aCons (eVar 1) aNil) [some (.loc (lh.length + 1)), some (.loc lh.length)] (lh ++ [.lst xs, .ins "Within" []]) = .ok (.loc (lh.length + 2)) (lh ++ [.lst xs, .ins "Within" [], .lst xs]) := by
    simp [hl]
  have hi : insAt (lh ++ [.lst xs, .ins "Within" [], .lst xs]) (.loc (lh.length + 1)) = some (lh.length + 1, ("Within" : Str), ([] : List (Str × D))) := insExt (i := 1) rfl
  have c1 : cs_deeds.contains ("Within" : Str) = true := by decide +kernel
  have e : f_Within_init [.loc (lh.length + 1), .loc lh.length] (lh ++ [.lst xs, .ins "Within" []]) = (match ((eCall true lisG (aCons (eVar 1) aNil) [some (.loc (lh.length + 1)), some (.loc lh.length)] (lh ++ [.lst xs, .ins "Within" []])).toS [some (.loc (lh.length + 1)), some (.loc lh.length)] fun v lh' => (match insAt lh' (.loc (lh.length + 1)) with
    | some (n, c, fs) => if cs_deeds.contains c = true ∧ fs.length < 1000 then SRes.nx [some (.loc (lh.length + 1)), some (.loc lh.length)] (lh'.set n (.ins c (putD "deeds" v fs))) else .stuck
    | none => .stuck)) with
    | .nx _ lh => .ok .non lh
    | .rt d lh => .ok d lh
    | .exc c _ lh => .exc c lh
    | .bk _ _ => .stuck
    | .stuck => .stuck) := rfl
  rw [e, hv, z_toS, hi]
  simp only [c1]
  rw [setExt]
  rfl
theorem b0_step {ns : List Int} {x1 x4 x5 x6 x12 x13 x14 x15 : Option D} {ls : List (Int × List Int)} (Y : Yard ls) (o : List Int) (ts : List Tw) (hts : ts.length ≤ 60000) (many : Int) (x9 x10 x11 : Option D) (lh : LH) :
    ∃ y9 y10 y11 ext, b0_law (xT ns x1 (some (linesD ls)) (some (.lst (o.map .int))) x4 x5 x6 (some (.lst (twD ts))) (some (.int many)) x9 x10 x11 x12 x13 x14 x15) lh = .nx (xT ns x1 (some (linesD ls)) (some (.lst (o.map .int))) x4 x5 x6 (some (.lst (twD ts))) (some (.int many)) y9 y10 y11 x12 x13 x14 x15) (lh ++ ext) := by
  let H3 : LH := [.lst (twD ts ++ [.str "out"]), .ins "Within" [("deeds", .loc (lh.length + 2))], .lst (twD ts)]
  have s1 : la1 (xT ns x1 (some (linesD ls)) (some (.lst (o.map .int))) x4 x5 x6 (some (.lst (twD ts))) (some (.int many)) x9 x10 x11 x12 x13 x14 x15) lh = .nx (xT ns x1 (some (linesD ls)) (some (.lst (o.map .int))) x4 x5 x6 (some (.lst (twD ts))) (some (.int many)) (some (.loc lh.length)) x10 x11 x12 x13 x14 x15) (lh ++ [.lst (twD ts)]) := by
    have hl : lisG lh [.lst (twD ts)] = .l (twD ts) := rfl
    unfold la1
    simp [xT, hl]
  have s2 : la2 (xT ns x1 (some (linesD ls)) (some (.lst (o.map .int))) x4 x5 x6 (some (.lst (twD ts))) (some (.int many)) (some (.loc lh.length)) x10 x11 x12 x13 x14 x15) (lh ++ [.lst (twD ts)]) = .nx (xT ns x1 (some (linesD ls)) (some (.lst (o.map .int))) x4 x5 x6 (some (.lst (twD ts))) (some (.int many)) (some (.loc lh.length)) (some (.loc (lh.length + 1))) x11 x12 x13 x14 x15) (lh ++ [.lst (twD ts), .ins "Within" [("deeds", .loc (lh.length + 2))], .lst (twD ts)]) := by
    have hw := winit lh (twD ts)
    unfold la2
    simp [xT, hw]
  have s3 : la3 (xT ns x1 (some (linesD ls)) (some (.lst (o.map .int))) x4 x5 x6 (some (.lst (twD ts))) (some (.int many)) (some (.loc lh.length)) (some (.loc (lh.length + 1))) x11 x12 x13 x14 x15) (lh ++ [.lst (twD ts), .ins "Within" [("deeds", .loc (lh.length + 2))], .lst (twD ts)]) = .nx (xT ns x1 (some (linesD ls)) (some (.lst (o.map .int))) x4 x5 x6 (some (.lst (twD ts))) (some (.int many)) (some (.loc lh.length)) (some (.loc (lh.length + 1))) x11 x12 x13 x14 x15) (lh ++ H3) := by
    have l2 : lstAt (lh ++ [.lst (twD ts), .ins "Within" [("deeds", .loc (lh.length + 2))], .lst (twD ts)]) lh.length = some (twD ts) := lstExt (i := 0) rfl
    have l1 : locL (lh ++ [.lst (twD ts), .ins "Within" [("deeds", .loc (lh.length + 2))], .lst (twD ts)]) (.loc lh.length) = some (lh.length, twD ts) := by
      show (match lstAt _ lh.length with
        | some xs => some (lh.length, xs)
        | none => none) = _
      rw [l2]
    have ha : (twD ts).length < sizeLine := Nat.lt_of_le_of_lt (by rw [twD_len]; exact hts) (show 60000 < sizeLine by decide)
    have a2 : ∀ lh x, apG lh (twD ts) x = some (twD ts ++ [x], .non) := fun lh x => by
      unfold apG
      rw [if_pos ha]
    have st : (lh ++ ([.lst (twD ts), .ins "Within" [("deeds", .loc (lh.length + 2))], .lst (twD ts)] : LH)).set lh.length (.lst (twD ts ++ [.str "out"])) = lh ++ H3 := setExt 0 _
    unfold la3
    rw [z_drop, z_mt]
    show ((Res.ok (D.loc lh.length) _).bind _).toS _ _ = _
    rw [z_ok, l1]
    simp only [z_c, z_ok, l2, a2]
    rw [st]
    rfl
  have hi : insAt (lh ++ H3) (.loc (lh.length + 1)) = some (lh.length + 1, ("Within" : Str), ([("deeds", .loc (lh.length + 2))] : List (Str × D))) := insExt (i := 1) rfl
  have hd : lstAt (lh ++ H3) (lh.length + 2) = some (twD ts) := lstExt (i := 2) rfl
  have l1 : ([("deeds", .loc (lh.length + 2))] : List (Str × D)).lookup ("deeds" : Str) = some (.loc (lh.length + 2)) := by simp
  have l2 : ([("deeds", .loc (lh.length + 2))] : List (Str × D)).lookup ("shows" : Str) = none := by simp
  have c1 : cs_deeds.contains ("Within" : Str) = true := by decide +kernel
  have s4 : la4 (xT ns x1 (some (linesD ls)) (some (.lst (o.map .int))) x4 x5 x6 (some (.lst (twD ts))) (some (.int many)) (some (.loc lh.length)) (some (.loc (lh.length + 1))) x11 x12 x13 x14 x15) (lh ++ H3) = .nx (xT ns x1 (some (linesD ls)) (some (.lst (o.map .int))) x4 x5 x6 (some (.lst (twD ts))) (some (.int many)) (some (.loc lh.length)) (some (.loc (lh.length + 1))) x11 x12 x13 x14 x15) (lh ++ H3) := by
    have hn : neG (lh ++ H3) (.loc (lh.length + 2)) (.lst (twD ts)) = .v (.bl (!decide (ts = ts))) := twE.neLoc (by rw [atExt]; rfl) ts
    rw [decide_eq_true rfl] at hn
    have vd : eFldC cs_deeds "deeds" (eVar 10) (xT ns x1 (some (linesD ls)) (some (.lst (o.map .int))) x4 x5 x6 (some (.lst (twD ts))) (some (.int many)) (some (.loc lh.length)) (some (.loc (lh.length + 1))) x11 x12 x13 x14 x15) (lh ++ H3) = .ok (.loc (lh.length + 2)) (lh ++ H3) := by
      rw [z_fldC]
      show ((Res.ok (D.loc (lh.length + 1)) (lh ++ H3)).bind _) = _
      rw [z_ok, hi]
      simp only [c1, l1, if_true]
    unfold la4
    rw [z_sif, z_t2, vd]
    show ((match neG (lh ++ H3) (.loc (lh.length + 2)) (.lst (twD ts)) with
      | .v (.bl b) => Res.ok b (lh ++ H3)
      | _ => .stuck).toS _ _) = _
    rw [hn]
    rfl
  have s5 : ∃ y11, la5 (xT ns x1 (some (linesD ls)) (some (.lst (o.map .int))) x4 x5 x6 (some (.lst (twD ts))) (some (.int many)) (some (.loc lh.length)) (some (.loc (lh.length + 1))) x11 x12 x13 x14 x15) (lh ++ H3) = .nx (xT ns x1 (some (linesD ls)) (some (.lst (o.map .int))) x4 x5 x6 (some (.lst (twD ts))) (some (.int many)) (some (.loc lh.length)) (some (.loc (lh.length + 1))) y11 x12 x13 x14 x15) (lh ++ H3) := by
    by_cases hm : 0 ≤ many ∧ many < 61
    · have hw := lwithin_call Y o many (by omega) ts (lh ++ H3)
      have hs := within_shows Y o many (by omega) hi hd
      refine ⟨some (.bl (wi ls o many ts)), ?_⟩
      have tt : (tBl (eChain leG ltG (eC (.int 0)) (eVar 8) (eC (.int 61)))) (xT ns x1 (some (linesD ls)) (some (.lst (o.map .int))) x4 x5 x6 (some (.lst (twD ts))) (some (.int many)) (some (.loc lh.length)) (some (.loc (lh.length + 1))) x11 x12 x13 x14 x15) (lh ++ H3) = .ok true (lh ++ H3) := by
        simp [xT, hm.1, hm.2]
      have q1 : (sSet 11 (eCallP 4 f__law_is_within (aCons (eVar 2) (aCons (eVar 3) (aCons (eVar 8) (aCons (eVar 7) aNil)))))) (xT ns x1 (some (linesD ls)) (some (.lst (o.map .int))) x4 x5 x6 (some (.lst (twD ts))) (some (.int many)) (some (.loc lh.length)) (some (.loc (lh.length + 1))) x11 x12 x13 x14 x15) (lh ++ H3) = .nx (xT ns x1 (some (linesD ls)) (some (.lst (o.map .int))) x4 x5 x6 (some (.lst (twD ts))) (some (.int many)) (some (.loc lh.length)) (some (.loc (lh.length + 1))) (some (.bl (wi ls o many ts))) x12 x13 x14 x15) (lh ++ H3) := by
        simp [xT, hw]
      have q2 : (tNotD (tOf (eCallP 2 f__law_says (aCons (eMethM [("Within", f_Within_shows)] "shows" 4 (eVar 10) (aCons (eVar 2) (aCons (eVar 3) (aCons (eVar 8) aNil)))) (aCons (eVar 11) aNil))))) (xT ns x1 (some (linesD ls)) (some (.lst (o.map .int))) x4 x5 x6 (some (.lst (twD ts))) (some (.int many)) (some (.loc lh.length)) (some (.loc (lh.length + 1))) (some (.bl (wi ls o many ts))) x12 x13 x14 x15) (lh ++ H3) = .ok false (lh ++ H3) := by
        simp [xT, hi, l2, hs, saysCall, truD]
      unfold la5
      rw [z_sif, tt, z_toS, if_pos rfl, z_seq, q1, z_sq1, z_sif, q2]
      rfl
    · refine ⟨x11, ?_⟩
      have tt : (tBl (eChain leG ltG (eC (.int 0)) (eVar 8) (eC (.int 61)))) (xT ns x1 (some (linesD ls)) (some (.lst (o.map .int))) x4 x5 x6 (some (.lst (twD ts))) (some (.int many)) (some (.loc lh.length)) (some (.loc (lh.length + 1))) x11 x12 x13 x14 x15) (lh ++ H3) = .ok false (lh ++ H3) := by
        by_cases h0 : 0 ≤ many
        · have h1 : ¬ many < 61 := fun z => hm ⟨h0, z⟩
          simp [xT, h0, h1]
        · simp [xT, h0]
      unfold la5
      rw [z_sif, tt]
      rfl
  obtain ⟨y11, s5⟩ := s5
  refine ⟨some (.loc lh.length), some (.loc (lh.length + 1)), y11, H3, ?_⟩
  rw [la_eq, z_seq, s1, z_sq1, z_seq, s2, z_sq1, z_seq, s3, z_sq1, z_seq, s4, z_sq1, s5]
end Lw

namespace Lw
open PySem Tb
/-- a row of lots -/
def Lot (d : D) : Prop := ∃ ts : List Tw, ts.length ≤ 60000 ∧ d = .lst (twD ts)
theorem many_loop {ns : List Int} {x1 x4 x5 x6 x12 x13 x14 x15 : Option D} {ls : List (Int × List Int)} (Y : Yard ls) (o : List Int) (ts : List Tw) (hts : ts.length ≤ 60000) (x8 x9 x10 x11 : Option D) (lh : LH) :
    ∃ y8 y9 y10 y11 ext, b1_law (xT ns x1 (some (linesD ls)) (some (.lst (o.map .int))) x4 x5 x6 (some (.lst (twD ts))) x8 x9 x10 x11 x12 x13 x14 x15) lh = .nx (xT ns x1 (some (linesD ls)) (some (.lst (o.map .int))) x4 x5 x6 (some (.lst (twD ts))) y8 y9 y10 y11 x12 x13 x14 x15) (lh ++ ext) := by
  have hlen : ∀ lh, lenG lh [.lst (twD ts)] = .v (.int ts.length) := fun lh => lenTale (.v ts)
  have s5 : (5 : Nat) ≤ sizeLine := by decide
  have hit : (iOf (eTup (aCons (eCall false lenG (aCons (eVar 7) aNil)) (aCons (e2 false subG (eCall false lenG (aCons (eVar 7) aNil)) (eC (.int 1))) (aCons (e2 false addG (eCall false lenG (aCons (eVar 7) aNil)) (eC (.int 1))) (aCons (eC (.int 60)) (aCons (eC (.int 0)) aNil))))))) (xT ns x1 (some (linesD ls)) (some (.lst (o.map .int))) x4 x5 x6 (some (.lst (twD ts))) x8 x9 x10 x11 x12 x13 x14 x15) lh = .ok (.st ([(ts.length : Int), (ts.length : Int) - 1, (ts.length : Int) + 1, 60, 0].map .int)) lh := by
    simp [xT, hlen, s5, asS]
  have H := forL_inv (g := gbName 8) (b := b0_law) (fun τ lh' => ∃ ext y8 y9 y10 y11, lh' = lh ++ ext ∧ τ = xT ns x1 (some (linesD ls)) (some (.lst (o.map .int))) x4 x5 x6 (some (.lst (twD ts))) y8 y9 y10 y11 x12 x13 x14 x15) (ds := [(ts.length : Int), (ts.length : Int) - 1, (ts.length : Int) + 1, 60, 0].map .int) (fun d hd τ lh' hi => by
    obtain ⟨ext, y8, y9, y10, y11, rfl, rfl⟩ := hi
    obtain ⟨i, _, rfl⟩ := List.mem_map.mp hd
    obtain ⟨z9, z10, z11, ext2, e⟩ := b0_step (ns := ns) (x1 := x1) (x4 := x4) (x5 := x5) (x6 := x6) (x12 := x12) (x13 := x13) (x14 := x14) (x15 := x15) Y o ts hts i y9 y10 y11 (lh ++ ext)
    exact ⟨[(8, .int i)], rfl, _, _, e, ext ++ ext2, some (.int i), z9, z10, z11, by rw [List.append_assoc], rfl⟩) (τ := xT ns x1 (some (linesD ls)) (some (.lst (o.map .int))) x4 x5 x6 (some (.lst (twD ts))) x8 x9 x10 x11 x12 x13 x14 x15) (lh := lh) ⟨[], x8, x9, x10, x11, by simp, rfl⟩
  obtain ⟨τ', lh', e, ext, y8, y9, y10, y11, rfl, rfl⟩ := H
  refine ⟨y8, y9, y10, y11, ext, ?_⟩
  unfold b1_law
  rw [z_for, hit, z_toS]
  exact e
theorem lots_loop {ns : List Int} {x1 x4 x5 x12 x13 x14 x15 : Option D} {ls : List (Int × List Int)} (Y : Yard ls) (o : List Int) {L : List D} (hL : ∀ d ∈ L, Lot d) (a : Nat) (lh : LH) (ha : lstAt lh a = some L) (x7 x8 x9 x10 x11 : Option D) :
    ∃ y7 y8 y9 y10 y11 lh', lb8 (xT ns x1 (some (linesD ls)) (some (.lst (o.map .int))) x4 x5 (some (.loc a)) x7 x8 x9 x10 x11 x12 x13 x14 x15) lh = .nx (xT ns x1 (some (linesD ls)) (some (.lst (o.map .int))) x4 x5 (some (.loc a)) y7 y8 y9 y10 y11 x12 x13 x14 x15) lh' := by
  have keep : ∀ ext, lstAt (lh ++ ext) a = some L := fun ext => by
    unfold lstAt at ha ⊢
    cases e : lh[a]? with
    | none => rw [e] at ha; cases ha
    | some o =>
      rw [List.getElem?_append_left (List.getElem?_eq_some_iff.mp e).1, e]
      rw [e] at ha
      exact ha
  have hf : ∃ τ' lh', sForN (.dy a) (gbName 7) b1_law (0 + L.length + 1) 0 (xT ns x1 (some (linesD ls)) (some (.lst (o.map .int))) x4 x5 (some (.loc a)) x7 x8 x9 x10 x11 x12 x13 x14 x15) lh = .nx τ' lh' ∧ (∃ ext y7 y8 y9 y10 y11, lh' = lh ++ ext ∧ τ' = xT ns x1 (some (linesD ls)) (some (.lst (o.map .int))) x4 x5 (some (.loc a)) y7 y8 y9 y10 y11 x12 x13 x14 x15) := by
    refine forN_inv (xs := L) (fun τ lh' => ∃ ext y7 y8 y9 y10 y11, lh' = lh ++ ext ∧ τ = xT ns x1 (some (linesD ls)) (some (.lst (o.map .int))) x4 x5 (some (.loc a)) y7 y8 y9 y10 y11 x12 x13 x14 x15) (fun τ lh' hi => ?_) (fun d hdm τ lh' hi => ?_) _ 0 (by omega) (by omega) _ _ ⟨[], x7, x8, x9, x10, x11, by simp, rfl⟩
    · obtain ⟨ext, _, _, _, _, _, rfl, _⟩ := hi
      exact keep ext
    · obtain ⟨ext, y7, y8, y9, y10, y11, rfl, rfl⟩ := hi
      obtain ⟨ts, hts, rfl⟩ := hL d hdm
      obtain ⟨z8, z9, z10, z11, ext2, e⟩ := many_loop (ns := ns) (x1 := x1) (x4 := x4) (x5 := x5) (x6 := some (.loc a)) (x12 := x12) (x13 := x13) (x14 := x14) (x15 := x15) Y o ts hts y8 y9 y10 y11 (lh ++ ext)
      exact ⟨[(7, .lst (twD ts))], rfl, _, _, e, ext ++ ext2, some (.lst (twD ts)), z8, z9, z10, z11, by rw [List.append_assoc], rfl⟩
  obtain ⟨τ', lh', e, ext, y7, y8, y9, y10, y11, rfl, rfl⟩ := hf
  refine ⟨y7, y8, y9, y10, y11, lh ++ ext, ?_⟩
  have hit : (iOf (eVar 6)) (xT ns x1 (some (linesD ls)) (some (.lst (o.map .int))) x4 x5 (some (.loc a)) x7 x8 x9 x10 x11 x12 x13 x14 x15) lh = .ok (.dy a) lh := by
    rw [z_iof]
    show ((Res.ok (D.loc a) lh).bind _) = _
    rw [z_ok]
    simp only [ha, Option.isSome_some, if_true]
  have e3 : Wk.len lh (.dy a) = L.length := by
    show (lstAt lh a).elim 0 List.length = _
    rw [ha]
    rfl
  unfold lb8
  rw [z_for, hit, z_toS]
  show sForN (.dy a) (gbName 7) b1_law (0 + Wk.len lh (.dy a) + 1) 0 _ lh = _
  rw [e3]
  exact e
theorem addV {lh : LH} (a b : List Tw) (hl : a.length + b.length ≤ 60000) : addG lh (.lst (twD a)) (.lst (twD b)) = .l (twD (a ++ b)) := by
  show (if (twD a).length + (twD b).length ≤ sizeLine then Ro.l (twD a ++ twD b) else .no) = _
  rw [if_pos (Nat.le_trans (by rw [twD_len, twD_len]; exact hl) (show 60000 ≤ sizeLine by decide)), twD_app]
theorem cutV (ts : List Tw) (lo hi : Option Int) : ∃ us, us.length ≤ ts.length ∧ cutD (twD ts) lo hi = twD us := by
  unfold cutD twD
  rw [← List.map_drop, ← List.map_take]
  exact ⟨_, by rw [List.length_take, List.length_drop]; omega, rfl⟩
theorem turn_ok2 (ns : List Int) (b : Nat) (hb : b ≤ 1) (x2 x3 x4 x5 x6 x7 x8 x9 x10 x11 x12 x13 x14 x15 : Option D) : ∃ y2 y3 y4 y5 y6 y7 y8 y9 y10 y11 lh', b2_law (xT ns (some (.int (b : Nat))) x2 x3 x4 x5 x6 x7 x8 x9 x10 x11 x12 x13 x14 x15) [] = .nx (xT ns (some (.int (b : Nat))) y2 y3 y4 y5 y6 y7 y8 y9 y10 y11 x12 x13 x14 x15) lh' := by
  obtain ⟨ls, Y, hok, _, hy⟩ := yard_call ns b (by omega) false
  obtain ⟨o, ho, hord⟩ := order_call hok Y ns b (by omega)
  have O := ord_of hok Y ho
  have hh := fun lh => lheights_call Y O lh
  obtain ⟨r, hr, hway⟩ := way_call Y (hts_ok Y O)
  have w1 : lb1 (xT ns (some (.int (b : Nat))) x2 x3 x4 x5 x6 x7 x8 x9 x10 x11 x12 x13 x14 x15) [] = .nx (xT ns (some (.int (b : Nat))) (some (linesD ls)) x3 x4 x5 x6 x7 x8 x9 x10 x11 x12 x13 x14 x15) [] := by
    unfold lb1
    simp [xT, hy]
  have w2 : lb2 (xT ns (some (.int (b : Nat))) (some (linesD ls)) x3 x4 x5 x6 x7 x8 x9 x10 x11 x12 x13 x14 x15) [] = .nx (xT ns (some (.int (b : Nat))) (some (linesD ls)) (some (.lst (o.map .int))) x4 x5 x6 x7 x8 x9 x10 x11 x12 x13 x14 x15) [] := by
    unfold lb2
    simp [xT, hord]
  have hway' : ∀ lh, callP f__law_way [linesD ls, .lst (o.map .int), hsD (lhF ls o)] lh = .ok (wayD r) lh := hway
  have w3 : lb3 (xT ns (some (.int (b : Nat))) (some (linesD ls)) (some (.lst (o.map .int))) x4 x5 x6 x7 x8 x9 x10 x11 x12 x13 x14 x15) [] = .nx (xT ns (some (.int (b : Nat))) (some (linesD ls)) (some (.lst (o.map .int))) (some (wayD r)) x5 x6 x7 x8 x9 x10 x11 x12 x13 x14 x15) [] := by
    unfold lb3
    simp [xT, hh, hway']
  obtain ⟨ws, hws, w4⟩ : ∃ ws : List Wd, ws.length ≤ 30000 ∧ lb4 (xT ns (some (.int (b : Nat))) (some (linesD ls)) (some (.lst (o.map .int))) (some (wayD r)) x5 x6 x7 x8 x9 x10 x11 x12 x13 x14 x15) [] = .nx (xT ns (some (.int (b : Nat))) (some (linesD ls)) (some (.lst (o.map .int))) (some (wayD r)) (some (.lst (twD (dws ws)))) x6 x7 x8 x9 x10 x11 x12 x13 x14 x15) [] := by
    cases r with
    | none => exact ⟨[.take, .out], by decide, rfl⟩
    | some ws =>
      refine ⟨ws, hr ws rfl, ?_⟩
      rw [dws_D]
      rfl
  obtain ⟨ts, hts⟩ : ∃ ts, ts = dws ws := ⟨_, rfl⟩
  have htl : ts.length ≤ 30000 := by rw [hts]; simpa [dws] using hws
  rw [← hts] at w4
  obtain ⟨u1, hu1, cu1⟩ := cutV ts none (some (-1))
  obtain ⟨u2, hu2, cu2⟩ := cutV ts (some 1) none
  have q2 : ∀ lh, addG lh (.lst [.str "left", .str "right"]) (.lst (twD ts)) = .l (twD ([.d .left, .d .right] ++ ts)) := fun lh => addV [.d .left, .d .right] ts (by simp; omega)
  have q3 : ∀ lh, addG lh (.lst (twD ts)) (.lst [.str "left"]) = .l (twD (ts ++ [.d .left])) := fun lh => addV ts [.d .left] (by simp; omega)
  have q7 : ∀ lh, addG lh (.lst [.str "halt"]) (.lst (twD ts)) = .l (twD ([.o .halt] ++ ts)) := fun lh => addV [.o .halt] ts (by simp; omega)
  have q8 : ∀ lh, mulG lh (.lst [.str "right"]) (.int 4) = .l (twD [.d .right, .d .right, .d .right, .d .right]) := fun lh => by kernel_rfl
  have q9 : ∀ lh, addG lh (.lst [.str "take", .str "put"]) (.lst (twD ts)) = .l (twD ([.d .take, .d .put] ++ ts)) := fun lh => addV [.d .take, .d .put] ts (by simp; omega)
  have q10 : ∀ lh, addG lh (.lst [.str "right", .str "right"]) (.lst (twD ts)) = .l (twD ([.d .right, .d .right] ++ ts)) := fun lh => addV [.d .right, .d .right] ts (by simp; omega)
  have q11 : ∀ lh, addG lh (.lst (twD ts)) (.lst [.str "out"]) = .l (twD (ts ++ [.d .out])) := fun lh => addV ts [.d .out] (by simp; omega)
  have q12 : ∀ lh, mulG lh (.lst [.str "right"]) (.int 200) = .l (twD (List.replicate 200 (.d .right))) := fun lh => by kernel_rfl
  have q13 : ∀ lh, addG lh (.lst (twD (List.replicate 200 (.d .right)))) (.lst (twD ts)) = .l (twD (List.replicate 200 (.d .right) ++ ts)) := fun lh => addV _ ts (by simp; omega)
  have n1 : ∀ lh, negG lh (.int 1) = .v (.int (-1)) := fun lh => rfl
  have z0 : (0 : Nat) ≤ sizeLine := by decide
  have z1 : (1 : Nat) ≤ sizeLine := by decide
  have z2 : (2 : Nat) ≤ sizeLine := by decide
  have z5 : (5 : Nat) ≤ sizeLine := by decide
  have z7 : (7 : Nat) ≤ sizeLine := by decide
  obtain ⟨L1, hL1⟩ : ∃ L1 : List D, L1 = [.lst (twD ts), .lst (twD ([.d .left, .d .right] ++ ts)), .lst (twD (ts ++ [.d .left])), .lst (twD u1), .lst (twD u2), .lst (twD []), .lst (twD ([.o .halt] ++ ts))] := ⟨_, rfl⟩
  have w5 : lb5 (xT ns (some (.int (b : Nat))) (some (linesD ls)) (some (.lst (o.map .int))) (some (wayD r)) (some (.lst (twD ts))) x6 x7 x8 x9 x10 x11 x12 x13 x14 x15) [] = .nx (xT ns (some (.int (b : Nat))) (some (linesD ls)) (some (.lst (o.map .int))) (some (wayD r)) (some (.lst (twD ts))) (some (.loc 0)) x7 x8 x9 x10 x11 x12 x13 x14 x15) [.lst L1] := by
    have cu1' : ∀ lh, slG lh (.lst (twD ts)) none (some (-1)) = .l (twD u1) := fun lh => by
      show Ro.l (cutD (twD ts) none (some (-1))) = _
      rw [cu1]
    have cu2' : ∀ lh, slG lh (.lst (twD ts)) (some 1) none = .l (twD u2) := fun lh => by
      show Ro.l (cutD (twD ts) (some 1) none) = _
      rw [cu2]
    have v5 : ∀ lh, eVar 5 (xT ns (some (.int (b : Nat))) (some (linesD ls)) (some (.lst (o.map .int))) (some (wayD r)) (some (.lst (twD ts))) x6 x7 x8 x9 x10 x11 x12 x13 x14 x15) lh = .ok (.lst (twD ts)) lh := fun lh => rfl
    rw [hL1]
    unfold lb5
    rw [z_set]
    simp only [z_lst, z_ac, z_e2, z_sl, v5, z_on, z_os, z_c, z_an, z_ok, z_e1, n1, z_rv, List.length_cons, List.length_nil, Nat.zero_add, Nat.reduceAdd, z0, z1, z2, z7, if_true, q2, q3, q7, cu1', cu2', z_rl]
    rfl
  obtain ⟨L2, hL2⟩ : ∃ L2 : List D, L2 = L1 ++ [.lst (twD [.d .right, .d .right, .d .right, .d .right]), .lst (twD ([.d .take, .d .put] ++ ts)), .lst (twD ([.d .right, .d .right] ++ ts)), .lst (twD (ts ++ [.d .out])), .lst (twD [.d .out])] := ⟨_, rfl⟩
  have l1 : L1.length = 7 := by rw [hL1]; rfl
  have l2 : L2.length = 12 := by rw [hL2, List.length_append, l1]; rfl
  have w6 : lb6 (xT ns (some (.int (b : Nat))) (some (linesD ls)) (some (.lst (o.map .int))) (some (wayD r)) (some (.lst (twD ts))) (some (.loc 0)) x7 x8 x9 x10 x11 x12 x13 x14 x15) [.lst L1] = .nx (xT ns (some (.int (b : Nat))) (some (linesD ls)) (some (.lst (o.map .int))) (some (wayD r)) (some (.lst (twD ts))) (some (.loc 1)) x7 x8 x9 x10 x11 x12 x13 x14 x15) [.lst L1, .lst L2] := by
    have v5 : ∀ lh, eVar 5 (xT ns (some (.int (b : Nat))) (some (linesD ls)) (some (.lst (o.map .int))) (some (wayD r)) (some (.lst (twD ts))) (some (.loc 0)) x7 x8 x9 x10 x11 x12 x13 x14 x15) lh = .ok (.lst (twD ts)) lh := fun lh => rfl
    have v6 : ∀ lh, eVar 6 (xT ns (some (.int (b : Nat))) (some (linesD ls)) (some (.lst (o.map .int))) (some (wayD r)) (some (.lst (twD ts))) (some (.loc 0)) x7 x8 x9 x10 x11 x12 x13 x14 x15) lh = .ok (.loc 0) lh := fun lh => rfl
    have qa : addG [.lst L1] (.loc 0) (.lst [.lst (twD [.d .right, .d .right, .d .right, .d .right]), .lst (twD ([.d .take, .d .put] ++ ts)), .lst (twD ([.d .right, .d .right] ++ ts)), .lst (twD (ts ++ [.d .out])), .lst [.str "out"]]) = .l L2 := by
      rw [hL2]
      show (if L1.length + 5 ≤ sizeLine then Ro.l (L1 ++ _) else .no) = _
      rw [if_pos (by rw [l1]; exact Nat.le_trans (show 12 ≤ 500 by decide) (show 500 ≤ sizeLine by decide))]
      rfl
    unfold lb6
    rw [z_set]
    simp only [z_lst, z_ac, z_e2, v5, v6, z_c, z_an, z_ok, List.length_cons, List.length_nil, Nat.zero_add, Nat.reduceAdd, z0, z1, z2, z5, if_true, q8, q9, q10, q11, z_rl, qa]
    rfl
  have w7 : lb7 (xT ns (some (.int (b : Nat))) (some (linesD ls)) (some (.lst (o.map .int))) (some (wayD r)) (some (.lst (twD ts))) (some (.loc 1)) x7 x8 x9 x10 x11 x12 x13 x14 x15) [.lst L1, .lst L2] = .nx (xT ns (some (.int (b : Nat))) (some (linesD ls)) (some (.lst (o.map .int))) (some (wayD r)) (some (.lst (twD ts))) (some (.loc 1)) x7 x8 x9 x10 x11 x12 x13 x14 x15) [.lst L1, .lst (L2 ++ [.lst (twD (List.replicate 200 (.d .right) ++ ts))])] := by
    have v5 : ∀ lh, eVar 5 (xT ns (some (.int (b : Nat))) (some (linesD ls)) (some (.lst (o.map .int))) (some (wayD r)) (some (.lst (twD ts))) (some (.loc 1)) x7 x8 x9 x10 x11 x12 x13 x14 x15) lh = .ok (.lst (twD ts)) lh := fun lh => rfl
    have a2 : ∀ lh x, apG lh L2 x = some (L2 ++ [x], .non) := fun lh x => by
      unfold apG
      rw [if_pos (by rw [l2]; exact Nat.lt_of_lt_of_le (show 12 < 500 by decide) (show 500 ≤ sizeLine by decide))]
    have k1 : locL [.lst L1, .lst L2] (.loc 1) = some (1, L2) := rfl
    have k2 : lstAt [.lst L1, .lst L2] 1 = some L2 := rfl
    unfold lb7
    rw [z_drop, z_mt]
    show ((Res.ok (D.loc 1) [.lst L1, .lst L2]).bind _).toS _ _ = _
    rw [z_ok, k1]
    simp only [z_lst, z_ac, z_e2, v5, z_c, z_an, z_ok, List.length_cons, List.length_nil, Nat.zero_add, z1, if_true, q12, q13, z_rl, k2, a2]
    rfl
  obtain ⟨y7, y8, y9, y10, y11, lh', w8⟩ := lots_loop (ns := ns) (x1 := some (.int (b : Nat))) (x4 := some (wayD r)) (x5 := some (.lst (twD ts))) (x12 := x12) (x13 := x13) (x14 := x14) (x15 := x15) Y o (L := L2 ++ [.lst (twD (List.replicate 200 (.d .right) ++ ts))]) (fun d hd => by
    rw [hL2, hL1] at hd
    simp only [List.mem_append, List.mem_cons, List.not_mem_nil, or_false] at hd
    rcases hd with ((rfl | rfl | rfl | rfl | rfl | rfl | rfl) | (rfl | rfl | rfl | rfl | rfl)) | rfl
    · exact ⟨ts, by omega, rfl⟩
    · exact ⟨_, by simp; omega, rfl⟩
    · exact ⟨_, by simp; omega, rfl⟩
    · exact ⟨u1, by omega, rfl⟩
    · exact ⟨u2, by omega, rfl⟩
    · exact ⟨[], by simp, rfl⟩
    · exact ⟨_, by simp; omega, rfl⟩
    · exact ⟨_, by simp, rfl⟩
    · exact ⟨_, by simp; omega, rfl⟩
    · exact ⟨_, by simp; omega, rfl⟩
    · exact ⟨_, by simp; omega, rfl⟩
    · exact ⟨_, by simp, rfl⟩
    · exact ⟨_, by simp; omega, rfl⟩) 1 [.lst L1, .lst (L2 ++ [.lst (twD (List.replicate 200 (.d .right) ++ ts))])] rfl x7 x8 x9 x10 x11
  refine ⟨some (linesD ls), some (.lst (o.map .int)), some (wayD r), some (.lst (twD ts)), some (.loc 1), y7, y8, y9, y10, y11, lh', ?_⟩
  rw [lb_eq, z_seq, w1, z_sq1, z_seq, w2, z_sq1, z_seq, w3, z_sq1, z_seq, w4, z_sq1, z_seq, w5, z_sq1, z_seq, w6, z_sq1, z_seq, w7, z_sq1]
  exact w8
end Lw

namespace Lw
open PySem Tb
def isTr : SRes → Bool
  | .rt (.bl true) _ => true
  | _ => false
theorem isTr_ok {r : SRes} (h : isTr r = true) : ∃ lh, r = .rt (.bl true) lh := by
  unfold isTr at h
  split at h
  · exact ⟨_, rfl⟩
  · cases h
def lawT : SM := sSeq lw2 (sSeq lw3 (sSeq lw4 (sSeq lw5 (lw6))))
theorem tail_ok (ns : List Int) (x1 x2 x3 x4 x5 x6 x7 x8 x9 x10 x11 x12 x13 x14 x15 : Option D) : ∃ lh, lawT (xT ns x1 x2 x3 x4 x5 x6 x7 x8 x9 x10 x11 x12 x13 x14 x15) [] = .rt (.bl true) lh := isTr_ok (by kernel_rfl)
end Lw

namespace Lw
open PySem Tb
theorem rngOk {m : EM} {τ : Tau} {lh : LH} {j : Int} (hm : m τ lh = .ok (.int j) lh) (h : -(2 ^ 62) ≤ j ∧ j < 2 ^ 62) : iRng m τ lh = .ok (.st (intsD 0 j.toNat)) lh := by
  unfold iRng
  rw [hm]
  exact if_pos h
theorem law_true (ns : List Int) (hn : ns.length ≤ 63) (hb : ∀ z ∈ ns, Builtin.Int.intBits z ≤ 1048576) : ∃ lh, f_law [.scr (ns.map D.int)] [] = .ok (.bl true) lh := by
  have hsc : ∀ lh, frz lh fuel (scD ns) = some (scD ns) := fun lh => frz_sc lh 10 ns
  have hclr : ∀ (lh : LH) (b : Int) (x2 x3 x4 x5 x6 x7 x8 x9 x10 x11 x12 x13 x14 x15 : Option D), clr (frz lh fuel) (xT ns (some (.int b)) x2 x3 x4 x5 x6 x7 x8 x9 x10 x11 x12 x13 x14 x15) = xT ns (some (.int b)) (x2.bind (frz lh fuel)) (x3.bind (frz lh fuel)) (x4.bind (frz lh fuel)) (x5.bind (frz lh fuel)) (x6.bind (frz lh fuel)) (x7.bind (frz lh fuel)) (x8.bind (frz lh fuel)) (x9.bind (frz lh fuel)) (x10.bind (frz lh fuel)) (x11.bind (frz lh fuel)) (x12.bind (frz lh fuel)) (x13.bind (frz lh fuel)) (x14.bind (frz lh fuel)) (x15.bind (frz lh fuel)) := fun lh b x2 x3 x4 x5 x6 x7 x8 x9 x10 x11 x12 x13 x14 x15 => by
    have : frz lh fuel (.int b) = some (.int b) := rfl
    simp [clr, xT, hsc, this]
  have turn : ∀ (b : Nat), b ≤ 1 → ∀ (x2 x3 x4 x5 x6 x7 x8 x9 x10 x11 x12 x13 x14 x15 : Option D), ∃ y2 y3 y4 y5 y6 y7 y8 y9 y10 y11 y12 y13 y14 y15, sP b2_law (xT ns (some (.int (b : Nat))) x2 x3 x4 x5 x6 x7 x8 x9 x10 x11 x12 x13 x14 x15) [] = .nx (xT ns (some (.int (b : Nat))) y2 y3 y4 y5 y6 y7 y8 y9 y10 y11 y12 y13 y14 y15) [] := fun b hb x2 x3 x4 x5 x6 x7 x8 x9 x10 x11 x12 x13 x14 x15 => by
    unfold sP
    rw [hclr]
    obtain ⟨y2, y3, y4, y5, y6, y7, y8, y9, y10, y11, lh', e⟩ := turn_ok2 ns b hb (x2.bind (frz [] fuel)) (x3.bind (frz [] fuel)) (x4.bind (frz [] fuel)) (x5.bind (frz [] fuel)) (x6.bind (frz [] fuel)) (x7.bind (frz [] fuel)) (x8.bind (frz [] fuel)) (x9.bind (frz [] fuel)) (x10.bind (frz [] fuel)) (x11.bind (frz [] fuel)) (x12.bind (frz [] fuel)) (x13.bind (frz [] fuel)) (x14.bind (frz [] fuel)) (x15.bind (frz [] fuel))
    rw [e]
    simp only
    rw [hclr]
    exact ⟨_, _, _, _, _, _, _, _, _, _, _, _, _, _, rfl⟩
  obtain ⟨a2, a3, a4, a5, a6, a7, a8, a9, a10, a11, a12, a13, a14, a15, o1⟩ := turn 0 (by omega) none none none none none none none none none none none none none none
  obtain ⟨b2, b3, b4, b5, b6, b7, b8, b9, b10, b11, b12, b13, b14, b15, o2⟩ := turn 1 (by omega) a2 a3 a4 a5 a6 a7 a8 a9 a10 a11 a12 a13 a14 a15
  obtain ⟨lh, ht⟩ := tail_ok ns (some (.int 1)) b2 b3 b4 b5 b6 b7 b8 b9 b10 b11 b12 b13 b14 b15
  refine ⟨lh, ?_⟩
  have hloop : lw1 (xT ns none none none none none none none none none none none none none none none) [] = .nx (xT ns (some (.int 1)) b2 b3 b4 b5 b6 b7 b8 b9 b10 b11 b12 b13 b14 b15) [] := by
    unfold lw1
    rw [z_for, rngOk (m := eC (.int 2)) (j := 2) rfl (by decide), z_toS]
    show stepG (gbName 1) (sP b2_law) (.int ((0 : Nat) : Int)) _ _ (fun τ lh => stepG (gbName 1) (sP b2_law) (.int ((1 : Nat) : Int)) τ lh (fun τ lh => .nx τ lh)) = _
    have s1 : ∀ (d : Int) (x1 y2 y3 y4 y5 y6 y7 y8 y9 y10 y11 y12 y13 y14 y15 : Option D) (lh : LH) (k : Tau → LH → SRes), stepG (gbName 1) (sP b2_law) (.int d) (xT ns x1 y2 y3 y4 y5 y6 y7 y8 y9 y10 y11 y12 y13 y14 y15) lh k = (match sP b2_law (xT ns (some (.int d)) y2 y3 y4 y5 y6 y7 y8 y9 y10 y11 y12 y13 y14 y15) lh with
      | .nx τ lh => k τ lh
      | .bk τ lh => .nx τ lh
      | .rt d lh => .rt d lh
      | .exc c τ lh => .exc c τ lh
      | .stuck => .stuck) := fun d x1 y2 y3 y4 y5 y6 y7 y8 y9 y10 y11 y12 y13 y14 y15 lh k => rfl
    rw [s1, o1]
    show stepG (gbName 1) (sP b2_law) (.int ((1 : Nat) : Int)) _ _ _ = _
    rw [s1, o2]
    rfl
  unfold f_law fnM
  rw [lw_eq]
  show (match (sSeq lw1 lawT) (xT ns none none none none none none none none none none none none none none none) [] with
    | .nx _ lh => _ | .rt d lh => _ | .exc c _ lh => _ | .bk _ _ => _ | .stuck => _) = _
  rw [z_seq, hloop, z_sq1, ht]
end Lw

namespace Lw
open PySem PySem.Spec PyProof.Rows L2 Tb
def fa0 : List He.Fa := [.free "len", .free "isinstance", .free "sorted", .free "range", .free "list", .free "tuple", .free "sum", .free "min", .free "all", .free "any", .free "enumerate", .free "int", .free "bool", .free "str", .free "zip", .glo "is_whole", .keep "is_whole", .glo "between", .keep "between", .glo "is_count", .keep "is_count", .glo "is_line", .keep "is_line", .glo "engines_of"]
def fa1 : List He.Fa := [.keep "engines_of", .glo "check_lines", .keep "check_lines", .glo "check_order", .keep "check_order", .glo "is_deed", .keep "is_deed", .glo "first_stand", .keep "first_stand", .glo "behind", .keep "behind", .glo "there", .keep "there", .glo "next_of", .keep "next_of", .glo "kept", .keep "kept", .glo "is_last", .keep "is_last", .glo "gone_by", .keep "gone_by", .glo "heights_of", .keep "heights_of", .glo "brings"]
def fa2 : List He.Fa := [.keep "brings", .glo "least_way", .keep "least_way", .glo "within", .keep "within", .glo "_law_cell_at", .keep "_law_cell_at", .glo "_law_draw", .keep "_law_draw", .glo "_law_number", .keep "_law_number", .glo "_law_yard", .keep "_law_yard", .glo "_law_order", .keep "_law_order", .glo "_law_behind", .keep "_law_behind", .glo "_law_first", .keep "_law_first", .glo "_law_gone", .keep "_law_gone", .glo "_law_there", .keep "_law_there", .glo "_law_steps"]
def fa3 : List He.Fa := [.keep "_law_steps", .glo "_law_last", .keep "_law_last", .glo "_law_heights", .keep "_law_heights", .glo "_law_is_within", .keep "_law_is_within", .glo "_law_way", .keep "_law_way", .glo "_law_says", .keep "_law_says", .glo "law", .keep "law", .glo "Within", .glo "Beyond", .glo "BadCount", .glo "BadLines", .glo "BadOrder", .cls "Within", .mkr "Within", .cls "Beyond", .mkr "Beyond", .meth "Within" "shows", .exc "BadCount"]
def fa4 : List He.Fa := [.exc "BadLines", .exc "BadOrder", .noat "Within" "deeds", .noat "Beyond" "heights", .glo "DEEDS", .int "MOST" 60]
def fa : List He.Fa := fa0 ++ fa1 ++ fa2 ++ fa3 ++ fa4
def fn0 : List He.DefD := [⟨("is_whole", none), "is_whole", "is_whole", defArgs s_is_whole, defBody s_is_whole, defScope s_is_whole, [], []⟩,
  ⟨("between", none), "between", "between", defArgs s_between, defBody s_between, defScope s_between, [], []⟩,
  ⟨("is_count", none), "is_count", "is_count", defArgs s_is_count, defBody s_is_count, defScope s_is_count, [], []⟩,
  ⟨("is_line", none), "is_line", "is_line", defArgs s_is_line, defBody s_is_line, defScope s_is_line, [], []⟩,
  ⟨("engines_of", none), "engines_of", "engines_of", defArgs s_engines_of, defBody s_engines_of, defScope s_engines_of, [], []⟩,
  ⟨("check_lines", none), "check_lines", "check_lines", defArgs s_check_lines, defBody s_check_lines, defScope s_check_lines, [], []⟩,
  ⟨("check_order", none), "check_order", "check_order", defArgs s_check_order, defBody s_check_order, defScope s_check_order, [], []⟩,
  ⟨("is_deed", none), "is_deed", "is_deed", defArgs s_is_deed, defBody s_is_deed, defScope s_is_deed, [], []⟩,
  ⟨("first_stand", none), "first_stand", "first_stand", defArgs s_first_stand, defBody s_first_stand, defScope s_first_stand, [], []⟩,
  ⟨("behind", none), "behind", "behind", defArgs s_behind, defBody s_behind, defScope s_behind, [], []⟩,
  ⟨("there", none), "there", "there", defArgs s_there, defBody s_there, defScope s_there, [], []⟩,
  ⟨("next_of", none), "next_of", "next_of", defArgs s_next_of, defBody s_next_of, defScope s_next_of, [], []⟩,
  ⟨("kept", none), "kept", "kept", defArgs s_kept, defBody s_kept, defScope s_kept, [], []⟩,
  ⟨("is_last", none), "is_last", "is_last", defArgs s_is_last, defBody s_is_last, defScope s_is_last, [], []⟩,
  ⟨("gone_by", none), "gone_by", "gone_by", defArgs s_gone_by, defBody s_gone_by, defScope s_gone_by, [], []⟩,
  ⟨("heights_of", none), "heights_of", "heights_of", defArgs s_heights_of, defBody s_heights_of, defScope s_heights_of, [], []⟩,
  ⟨("brings", none), "brings", "brings", defArgs s_brings, defBody s_brings, defScope s_brings, [], []⟩,
  ⟨("Within", some "__init__"), "__init__", "Within.__init__", defArgs s_Within_init, defBody s_Within_init, defScope s_Within_init, [], []⟩,
  ⟨("Within", some "shows"), "shows", "Within.shows", defArgs s_Within_shows, defBody s_Within_shows, defScope s_Within_shows, [], []⟩,
  ⟨("Beyond", some "__init__"), "__init__", "Beyond.__init__", defArgs s_Beyond_init, defBody s_Beyond_init, defScope s_Beyond_init, [], []⟩,
  ⟨("least_way", none), "least_way", "least_way", defArgs s_least_way, defBody s_least_way, defScope s_least_way, [], []⟩,
  ⟨("within", none), "within", "within", defArgs s_within, defBody s_within, defScope s_within, [], []⟩,
  ⟨("_law_cell_at", none), "_law_cell_at", "_law_cell_at", defArgs s__law_cell_at, defBody s__law_cell_at, defScope s__law_cell_at, [], []⟩,
  ⟨("_law_draw", none), "_law_draw", "_law_draw", defArgs s__law_draw, defBody s__law_draw, defScope s__law_draw, [], []⟩]
def fn1 : List He.DefD := [⟨("_law_number", none), "_law_number", "_law_number", defArgs s__law_number, defBody s__law_number, defScope s__law_number, [], []⟩,
  ⟨("_law_yard", none), "_law_yard", "_law_yard", defArgs s__law_yard, defBody s__law_yard, defScope s__law_yard, [], []⟩,
  ⟨("_law_order", none), "_law_order", "_law_order", defArgs s__law_order, defBody s__law_order, defScope s__law_order, [], []⟩,
  ⟨("_law_behind", none), "_law_behind", "_law_behind", defArgs s__law_behind, defBody s__law_behind, defScope s__law_behind, [], []⟩,
  ⟨("_law_first", none), "_law_first", "_law_first", defArgs s__law_first, defBody s__law_first, defScope s__law_first, [], []⟩,
  ⟨("_law_gone", none), "_law_gone", "_law_gone", defArgs s__law_gone, defBody s__law_gone, defScope s__law_gone, [], []⟩,
  ⟨("_law_there", none), "_law_there", "_law_there", defArgs s__law_there, defBody s__law_there, defScope s__law_there, [], []⟩,
  ⟨("_law_steps", none), "_law_steps", "_law_steps", defArgs s__law_steps, defBody s__law_steps, defScope s__law_steps, [], []⟩,
  ⟨("_law_last", none), "_law_last", "_law_last", defArgs s__law_last, defBody s__law_last, defScope s__law_last, [], []⟩,
  ⟨("_law_heights", none), "_law_heights", "_law_heights", defArgs s__law_heights, defBody s__law_heights, defScope s__law_heights, [], []⟩,
  ⟨("_law_is_within", none), "_law_is_within", "_law_is_within", defArgs s__law_is_within, defBody s__law_is_within, defScope s__law_is_within, [], []⟩,
  ⟨("_law_way", none), "_law_way", "_law_way", defArgs s__law_way, defBody s__law_way, defScope s__law_way, [], []⟩,
  ⟨("_law_says", none), "_law_says", "_law_says", defArgs s__law_says, defBody s__law_says, defScope s__law_says, [], []⟩,
  ⟨("law", none), "law", "law", defArgs s_law, defBody s_law, defScope s_law, [], []⟩]
def fn : List He.DefD := fn0 ++ fn1
def ex (K : PySem.W.Frag) : Bool := He.tupB K "DEEDS" (ss_DEEDS.map .str)
theorem hd_of {w : World} {h : Heap} {K : PySem.W.Frag} {mg : Str → Option Value} (c : He.SaysX fa fn [] [] ex w h K) (hK : K.In h) (G : h.Ns mainGlobals mg) : Hd K mg := by
  have m0 : ex K = true := c.more
  unfold ex at m0
  have x0 := m0
  exact {
    f_len := He.free_ok hK G (c.t.d.fact 0)
    f_isinstance := He.free_ok hK G (c.t.d.fact 1)
    f_sorted := He.free_ok hK G (c.t.d.fact 2)
    f_range := He.free_ok hK G (c.t.d.fact 3)
    f_list := He.free_ok hK G (c.t.d.fact 4)
    f_tuple := He.free_ok hK G (c.t.d.fact 5)
    f_sum := He.free_ok hK G (c.t.d.fact 6)
    f_min := He.free_ok hK G (c.t.d.fact 7)
    f_all := He.free_ok hK G (c.t.d.fact 8)
    f_any := He.free_ok hK G (c.t.d.fact 9)
    f_enumerate := He.free_ok hK G (c.t.d.fact 10)
    f_int := He.free_ok hK G (c.t.d.fact 11)
    f_bool := He.free_ok hK G (c.t.d.fact 12)
    f_str := He.free_ok hK G (c.t.d.fact 13)
    f_zip := He.free_ok hK G (c.t.d.fact 14)
    g_is_whole := He.glo_ok hK G (c.t.d.fact 15)
    k_is_whole := He.keep_ok (c.t.d.fact 16)
    g_between := He.glo_ok hK G (c.t.d.fact 17)
    k_between := He.keep_ok (c.t.d.fact 18)
    g_is_count := He.glo_ok hK G (c.t.d.fact 19)
    k_is_count := He.keep_ok (c.t.d.fact 20)
    g_is_line := He.glo_ok hK G (c.t.d.fact 21)
    k_is_line := He.keep_ok (c.t.d.fact 22)
    g_engines_of := He.glo_ok hK G (c.t.d.fact 23)
    k_engines_of := He.keep_ok (c.t.d.fact 24)
    g_check_lines := He.glo_ok hK G (c.t.d.fact 25)
    k_check_lines := He.keep_ok (c.t.d.fact 26)
    g_check_order := He.glo_ok hK G (c.t.d.fact 27)
    k_check_order := He.keep_ok (c.t.d.fact 28)
    g_is_deed := He.glo_ok hK G (c.t.d.fact 29)
    k_is_deed := He.keep_ok (c.t.d.fact 30)
    g_first_stand := He.glo_ok hK G (c.t.d.fact 31)
    k_first_stand := He.keep_ok (c.t.d.fact 32)
    g_behind := He.glo_ok hK G (c.t.d.fact 33)
    k_behind := He.keep_ok (c.t.d.fact 34)
    g_there := He.glo_ok hK G (c.t.d.fact 35)
    k_there := He.keep_ok (c.t.d.fact 36)
    g_next_of := He.glo_ok hK G (c.t.d.fact 37)
    k_next_of := He.keep_ok (c.t.d.fact 38)
    g_kept := He.glo_ok hK G (c.t.d.fact 39)
    k_kept := He.keep_ok (c.t.d.fact 40)
    g_is_last := He.glo_ok hK G (c.t.d.fact 41)
    k_is_last := He.keep_ok (c.t.d.fact 42)
    g_gone_by := He.glo_ok hK G (c.t.d.fact 43)
    k_gone_by := He.keep_ok (c.t.d.fact 44)
    g_heights_of := He.glo_ok hK G (c.t.d.fact 45)
    k_heights_of := He.keep_ok (c.t.d.fact 46)
    g_brings := He.glo_ok hK G (c.t.d.fact 47)
    k_brings := He.keep_ok (c.t.d.fact 48)
    g_least_way := He.glo_ok hK G (c.t.d.fact 49)
    k_least_way := He.keep_ok (c.t.d.fact 50)
    g_within := He.glo_ok hK G (c.t.d.fact 51)
    k_within := He.keep_ok (c.t.d.fact 52)
    g__law_cell_at := He.glo_ok hK G (c.t.d.fact 53)
    k__law_cell_at := He.keep_ok (c.t.d.fact 54)
    g__law_draw := He.glo_ok hK G (c.t.d.fact 55)
    k__law_draw := He.keep_ok (c.t.d.fact 56)
    g__law_number := He.glo_ok hK G (c.t.d.fact 57)
    k__law_number := He.keep_ok (c.t.d.fact 58)
    g__law_yard := He.glo_ok hK G (c.t.d.fact 59)
    k__law_yard := He.keep_ok (c.t.d.fact 60)
    g__law_order := He.glo_ok hK G (c.t.d.fact 61)
    k__law_order := He.keep_ok (c.t.d.fact 62)
    g__law_behind := He.glo_ok hK G (c.t.d.fact 63)
    k__law_behind := He.keep_ok (c.t.d.fact 64)
    g__law_first := He.glo_ok hK G (c.t.d.fact 65)
    k__law_first := He.keep_ok (c.t.d.fact 66)
    g__law_gone := He.glo_ok hK G (c.t.d.fact 67)
    k__law_gone := He.keep_ok (c.t.d.fact 68)
    g__law_there := He.glo_ok hK G (c.t.d.fact 69)
    k__law_there := He.keep_ok (c.t.d.fact 70)
    g__law_steps := He.glo_ok hK G (c.t.d.fact 71)
    k__law_steps := He.keep_ok (c.t.d.fact 72)
    g__law_last := He.glo_ok hK G (c.t.d.fact 73)
    k__law_last := He.keep_ok (c.t.d.fact 74)
    g__law_heights := He.glo_ok hK G (c.t.d.fact 75)
    k__law_heights := He.keep_ok (c.t.d.fact 76)
    g__law_is_within := He.glo_ok hK G (c.t.d.fact 77)
    k__law_is_within := He.keep_ok (c.t.d.fact 78)
    g__law_way := He.glo_ok hK G (c.t.d.fact 79)
    k__law_way := He.keep_ok (c.t.d.fact 80)
    g__law_says := He.glo_ok hK G (c.t.d.fact 81)
    k__law_says := He.keep_ok (c.t.d.fact 82)
    g_law := He.glo_ok hK G (c.t.d.fact 83)
    k_law := He.keep_ok (c.t.d.fact 84)
    g_Within := He.glo_ok hK G (c.t.d.fact 85)
    g_Beyond := He.glo_ok hK G (c.t.d.fact 86)
    g_BadCount := He.glo_ok hK G (c.t.d.fact 87)
    g_BadLines := He.glo_ok hK G (c.t.d.fact 88)
    g_BadOrder := He.glo_ok hK G (c.t.d.fact 89)
    c_Within := He.cls_ok (c.t.d.fact 90)
    mk_Within := He.mkr_ok (c.t.d.fact 91)
    c_Beyond := He.cls_ok (c.t.d.fact 92)
    mk_Beyond := He.mkr_ok (c.t.d.fact 93)
    me_Within_shows := He.meth_ok (c.t.d.fact 94)
    e_BadCount := He.exc_ok (c.t.d.fact 95)
    e_BadLines := He.exc_ok (c.t.d.fact 96)
    e_BadOrder := He.exc_ok (c.t.d.fact 97)
    at_deeds := List.forall_mem_cons.mpr ⟨⟨He.cls_ok (c.t.d.fact 90), He.noat_ok (c.t.d.fact 98)⟩, fun _ z => nomatch z⟩
    at_heights := List.forall_mem_cons.mpr ⟨⟨He.cls_ok (c.t.d.fact 92), He.noat_ok (c.t.d.fact 99)⟩, fun _ z => nomatch z⟩
    x_DEEDS := fun X W pos e1 e2 hg => ee_tupG e1 e2 hg (He.glo_ok hK G (c.t.d.fact 100)) x0
    x_MOST := fun X W pos e1 e2 hg => ee_intG e2 hg (He.int_ok hK G (c.t.d.fact 101))
    F_is_whole := c.t.d.def_ 0
    F_between := c.t.d.def_ 1
    F_is_count := c.t.d.def_ 2
    F_is_line := c.t.d.def_ 3
    F_engines_of := c.t.d.def_ 4
    F_check_lines := c.t.d.def_ 5
    F_check_order := c.t.d.def_ 6
    F_is_deed := c.t.d.def_ 7
    F_first_stand := c.t.d.def_ 8
    F_behind := c.t.d.def_ 9
    F_there := c.t.d.def_ 10
    F_next_of := c.t.d.def_ 11
    F_kept := c.t.d.def_ 12
    F_is_last := c.t.d.def_ 13
    F_gone_by := c.t.d.def_ 14
    F_heights_of := c.t.d.def_ 15
    F_brings := c.t.d.def_ 16
    F_Within_init := c.t.d.def_ 17
    F_Within_shows := c.t.d.def_ 18
    F_Beyond_init := c.t.d.def_ 19
    F_least_way := c.t.d.def_ 20
    F_within := c.t.d.def_ 21
    F__law_cell_at := c.t.d.def_ 22
    F__law_draw := c.t.d.def_ 23
    F__law_number := c.t.d.def_ 24
    F__law_yard := c.t.d.def_ 25
    F__law_order := c.t.d.def_ 26
    F__law_behind := c.t.d.def_ 27
    F__law_first := c.t.d.def_ 28
    F__law_gone := c.t.d.def_ 29
    F__law_there := c.t.d.def_ 30
    F__law_steps := c.t.d.def_ 31
    F__law_last := c.t.d.def_ 32
    F__law_heights := c.t.d.def_ 33
    F__law_is_within := c.t.d.def_ 34
    F__law_way := c.t.d.def_ 35
    F__law_says := c.t.d.def_ 36
    F_law := c.t.d.def_ 37 }
abbrev R : PySem.W.OpenRow := PySem.W.OpenLaw.row PySem.Challenge.rw_turnbridge_k04_within_by_hand
abbrev hk : PySem.W.Hook := He.hookX 5 fa fn [] [] ex
def ob (s : PySem.W.SharedT) : He.AlX := He.obsX 5 fa fn [] [] ex (HandSHeadRun.getT s)
theorem ob_eq (s : PySem.W.SharedT) : ob s = hk.obs s.abs := He.obsX_eq (HandSHeadRun.getT_eq s)
def loose0 : List PySem.Str := ["BridgeError", "BadLines", "BadOrder", "BadCount", "DEEDS", "MOST", "is_whole", "between", "is_count", "is_line", "engines_of", "check_lines", "check_order", "is_deed", "first_stand", "behind", "there", "next_of", "kept", "is_last", "gone_by", "heights_of", "brings", "Answer"]
def loose1 : List PySem.Str := ["Within", "Beyond", "fits", "nexts", "are_closed", "least_way", "within", "_law_cell_at", "_law_draw", "_law_number", "_law_yard", "_law_order", "_law_behind", "_law_first", "_law_gone", "_law_there", "_law_steps", "_law_last", "_law_heights", "_law_is_within", "_law_way", "_law_says"]
def loose : List PySem.Str := loose0 ++ loose1
theorem run (w : World) : HandSHeadRun.RunEq R (PySem.W.view R.prog [52]) hk ob 20000 loose w := by
  intro os
  kernel_rfl
theorem cx_no {P : Program} {w : World} {l : List Env} {H : Hp} {s s' : Shared} {e : Value} (h : L2.CX P w l H s (fun _ _ _ => False) e s') : False := by
  obtain ⟨_, _, _, _, _, h⟩ := h
  simp at h
theorem law_end {w : World} {K : PySem.W.Frag} {H : Hp} {a : Addr} {ns : List Int} (P : Program) (hn : ns.length ≤ 63) (hb : ∀ z ∈ ns, Builtin.Int.intBits z ≤ 1048576) (hs : SqL K H a (ns.map V.int)) : spE ⟨P, w, K⟩ 1 f_law [.ref a] H (fun v _ => v = .bl true) fun _ _ _ => False := by
  obtain ⟨lh, e⟩ := law_true ns hn hb
  have nsR : ∀ ns : List Int, VRs ⟨P, w, K⟩ (fun _ => False) [] H (ns.map V.int) (ns.map D.int) := by
    intro ns
    induction ns with
    | nil => exact .nil
    | cons n ns ih => exact .cons (.int n) ih
  have hl : LstAt K (fun _ => False) [] H a (ns.map V.int) := by
    rcases hs with (h | h) | h
    · exact .inl ⟨h, fun z => z, by simp⟩
    · exact .inr (.inl h)
    · exact .inr (.inr h)
  refine ⟨rfl, fun _ => False, [], [], [.scr (ns.map D.int)], .cons (.scr hl (nsR ns)) .nil, SR.none_ (fun _ z => z.elim), ?_⟩
  rw [e]
  intro ρ' H' v s S r
  cases r
  rfl
end Lw
open PySem PySem.W PySem.Calls PyProof.Rows
theorem PySem.Challenge.cw_turnbridge_k04_within_by_hand_holds : PySem.Challenge.rw_turnbridge_k04_within_by_hand.Holds := by
  w_on; o_law
  refine HandSHeadRun.head_any (r := OpenLaw.row PySem.Challenge.rw_turnbridge_k04_within_by_hand) (q := view (OpenLaw.row PySem.Challenge.rw_turnbridge_k04_within_by_hand).prog [52]) (H := Lw.hk) (ob := Lw.ob) (M := 20000) (loose := Lw.loose) (d := HandSHeadRun.topDef (OpenLaw.row PySem.Challenge.rw_turnbridge_k04_within_by_hand).prog 52) (kwd := []) Lw.ob_eq
    (by kernel_rfl) (fun s => by kernel_rfl) Lw.run (by kernel_rfl) (by kernel_rfl) (by kernel_rfl) (by rfl) (by first | assumption | decide +kernel) (by decide +kernel) ⟨rfl, rfl, rfl, rfl, rfl, by decide +kernel⟩ ?hw ?hc
  case hw => w_witness2
  case hc =>
    refine LamX.walk_ofTsE (l := PySem.Challenge.rw_turnbridge_k04_within_by_hand) (n := 63) (k := 6) (CX := fun w => L2.CX PySem.Challenge.rw_turnbridge_k04_within_by_hand.prog w) (x := "_law_script") rfl (by decide) rfl ⟨rfl, by decide +kernel, by decide +kernel⟩ (fun w mg fa h Y G hm => ?_) (fun w H s e s' z => Lw.cx_no z)
    obtain ⟨K, hK, c⟩ := Y
    have hd := Lw.hd_of c hK G
    obtain ⟨fd, hb, hF⟩ := Lw.law_all PySem.Challenge.rw_turnbridge_k04_within_by_hand.prog w hd
    have e : mg "law" = some (.ref fa) := hm
    rw [hd.g_law] at e
    injection e with e
    injection e with e
    subst e
    exact ⟨K, hK, fd, [], Tb.spE ⟨PySem.Challenge.rw_turnbridge_k04_within_by_hand.prog, w, K⟩ 1 Lw.f_law, fun _ z => absurd z (by simp), fun _ z => absurd z (by simp), fun _ z => absurd z (by simp), hb, fun H a ns h1 h2 _ h3 => Lw.law_end _ h1 h2 h3, fun base _ _ _ => hF base⟩
